import PyProof.Rows.All
import Wide.All
import OpenK.AllK
import Wide.FinOn
import PySem.Challenge.RW_ok0069_01
open PySem PySem.W PyProof.Rows PySem.Calls PySem.Spec
set_option Elab.async false
set_option maxRecDepth 100000
set_option rowWalk.seconds 0
set_option linter.all false
set_option genSizeOf false
set_option genInjectivity false
namespace Mine
noncomputable abbrev PT : Program := (OpenRow.toRowW (OpenLaw.row PySem.Challenge.rw_ok0069_01)).prog
noncomputable def topS (i : Nat) : Stmt := match PT.main.body[i]? with | some s => s | none => .Return none ⟨0, 0, 0, 0⟩
noncomputable def isDefS : Stmt → Bool | .FunctionDef .. => true | _ => false
noncomputable def methS (i j : Nat) : Stmt := match topS i with | .ClassDef _ _ _ b .. => (match (b.filter isDefS)[j]? with | some s => s | none => .Return none ⟨0, 0, 0, 0⟩) | s => s
noncomputable def fdP : Stmt → Arguments | .FunctionDef _ a .. => a | _ => default
noncomputable def fdB : Stmt → List Stmt | .FunctionDef _ _ b .. => b | _ => []
noncomputable def fdS : Stmt → Scope | .FunctionDef _ _ _ _ _ _ s .. => s | _ => default
noncomputable abbrev kS (s : String) (t : Nat) : Value := .str (Str.ofString s) t
noncomputable abbrev kI (i : Int) (t : Nat) : Value := .int i t
noncomputable abbrev kE (P : Params) (s : String) (t : Nat) (v : Value) : DictEntry := ⟨PyData.keyHash P (Str.ofString s), .str (Str.ofString s) t, v⟩
noncomputable abbrev kO (c : Value) (d : Data) (s : Array (Option Value)) : Obj := ⟨c, none, d, s⟩
noncomputable def kL (P : Params) : Value := match (boot_o_3 P).data with
  | .dict es _ => (match es.toList.drop 3 with | e :: _ => e.val | [] => .none)
  | _ => .none
noncomputable def hd.heap_39 (P : Params) : Frag :=
  (nat_lit 2, (Obj.mk .none none (Data.dict #[(kE P "type.__subclasses__.Exception.0" 223 (kI 38 0)), (kE P "type.__subclasses__.Exception.n" 224 (kI 1 0))] 2) #[])) ::
  (nat_lit 3, (kO (.type "dict") (.dict #[(kE P "__name__" 165 (kS "law_ok0069_01" 1180)), (kE P "__doc__" 166 .none), (kE P "__package__" 167 .none), (kE P "__loader__" 168 (kL P)), (kE P "__spec__" 169 .none), (kE P "__annotations__" 170 (.ref 6)), (kE P "__builtins__" 171 (.ref 4)), (kE P "__file__" 173 (kS "/claim/cut.py" 172)), (kE P "__cached__" 174 .none), (kE P "_wall" 193 (.ref 21)), (kE P "LispSignal" 226 (.ref 38)), (kE P "NOWHERE" 231 (kI (-1) 230)), (kE P "NEWLINE" 233 (kI 10 232)), (kE P "TAB" 235 (kI 9 234)), (kE P "BLANK" 237 (kI 32 236)), (kE P "DELETE" 239 (kI 127 238)), (kE P "CARET" 241 (kI 94 240)), (kE P "BACKSLASH" 243 (kI 92 242)), (kE P "DOLLAR" 245 (kI 36 244)), (kE P "POINT" 247 (kI 46 246)), (kE P "Options" 286 (.ref 59)), (kE P "is_control" 293 (.ref 70)), (kE P "is_raw" 300 (.ref 77)), (kE P "figures_of" 307 (.ref 84)), (kE P "shown_codes" 316 (.ref 91)), (kE P "SHOWN" 320 (kI 0 319)), (kE P "POINTS" 322 (kI 2 321)), (kE P "View" 408 (.ref 158)), (kE P "Signs" 443 (.ref 179)), (kE P "is_break" 451 (.ref 190)), (kE P "hidden_end" 459 (.ref 197)), (kE P "hidden_begin" 467 (.ref 204)), (kE P "shown_place" 476 (.ref 211)), (kE P "string_signs" 482 (.ref 216)), (kE P "string_count" 488 (.ref 221)), (kE P "hidden_signs" 500 (.ref 228)), (kE P "signs_at" 506 (.ref 233)), (kE P "Walk" 570 (.ref 278)), (kE P "Row" 630 (.ref 313)), (kE P "put_sign" 640 (.ref 324)), (kE P "end_of_line" 650 (.ref 331)), (kE P "overflow" 664 (.ref 338)), (kE P "folded_row" 682 (.ref 345)), (kE P "cut_row" 700 (.ref 352)), (kE P "laid_row" 712 (.ref 359)), (kE P "laid_rows" 727 (.ref 366)), (kE P "line_begin" 737 (.ref 373)), (kE P "rows_of_line" 750 (.ref 380)), (kE P "own_spot" 759 (.ref 387)), (kE P "index_of" 769 (.ref 394)), (kE P "has_place" 778 (.ref 401)), (kE P "column_in" 788 (.ref 408)), (kE P "cursor_in" 798 (.ref 415)), (kE P "window_begin" 811 (.ref 422)), (kE P "row_ahead" 825 (.ref 429)), (kE P "row_behind" 837 (.ref 436)), (kE P "vertical_motion" 854 (.ref 443)), (kE P "Rules" 889 (.ref 461)), (kE P "Pane" 947 (.ref 496)), (kE P "recentered" 956 (.ref 507)), (kE P "scrolled" 968 (.ref 514)), (kE P "screen_rows" 978 (.ref 521)), (kE P "scroll_up" 992 (.ref 529)), (kE P "scroll_down" 1005 (.ref 537)), (kE P "recenter" 1014 (.ref 544)), (kE P "recenter_windowscroll" 1015 (.ref 544)), (kE P "Turns" 1063 (.ref 576)), (kE P "line_to_point" 1074 (.ref 587)), (kE P "DEFAULT" 1078 (kS "default" 1077)), (kE P "PLAIN" 1085 (.ref 588)), (kE P "UNTOLD" 1086 (.ref 589)), (kE P "Face" 1117 (.ref 608)), (kE P "FaceTable" 1179 (.ref 655)), (kE P "_law_draw" 1189 (.ref 666)), (kE P "_law_line_of" 1195 (.ref 671)), (kE P "_law_scrolled" 1208 (.ref 678)), (kE P "_law_told" 1221 (.ref 685)), (kE P "law" 1227 (.ref 690))] 78) #[])) ::
  (nat_lit 15, (kO (.type "tuple") (.seq #[] 0) #[])) ::
  (nat_lit 17, (kO (.type "tuple") (.seq #[(kS "k" 190)] 0) #[])) ::
  (nat_lit 18, (kO (.type "tuple") (.seq #[] 0) #[])) ::
  (nat_lit 20, (kO (.type "code") (.fields #[(kS "_wall" 187), (kS "_wall" 188), (kS "/claim/cut.py" 189), (kI 1 0), (kI 1 0), (kI 0 0), (kI 0 0), (kI 3 0), (.ref 15), (.bool true), (kI 181 0), (.ref 16), .none, (.ref 17), (.ref 18), (.ref 19), (kI 191 0), (kI 1 0), (kS "/claim/cut.py" 192)]) #[])) ::
  (nat_lit 21, (kO (.type "function") (.func (FuncData.mk (Str.ofString "_wall") (Str.ofString "_wall") (fdP (topS 0)) (FuncBody.stmts (fdB (topS 0))) (fdS (topS 0)) 3 [] .none .none .none (kS "__main__" 164) none (.ref 20) .none 0)) #[])) ::
  (nat_lit 22, (kO (.type "tuple") (.seq #[(.type "Exception")] 0) #[])) ::
  (nat_lit 29, (kO (.type "tuple") (.seq #[] 0) #[])) ::
  (nat_lit 31, (kO (.type "tuple") (.seq #[(kS "self" 211), (kS "symbol" 212), (kS "data" 213)] 0) #[])) ::
  (nat_lit 32, (kO (.type "tuple") (.seq #[] 0) #[])) ::
  (nat_lit 34, (kO (.type "code") (.fields #[(kS "__init__" 208), (kS "LispSignal.__init__" 209), (kS "/claim/cut.py" 210), (kI 7 0), (kI 3 0), (kI 0 0), (kI 0 0), (kI 3 0), (.ref 29), (.bool true), (kI 181 0), (.ref 30), .none, (.ref 31), (.ref 32), (.ref 33), (kI 214 0), (kI 7 0), (kS "/claim/cut.py" 215)]) #[])) ::
  (nat_lit 35, (PySem.Obj.mk (PySem.Value.type "function") (Option.none) (PySem.Data.func (PySem.FuncData.mk (Str.ofString "__init__") (Str.ofString "LispSignal.__init__") (fdP (methS 2 0)) (PySem.FuncBody.stmts (fdB (methS 2 0))) (fdS (methS 2 0)) 3 [] PySem.Value.none PySem.Value.none PySem.Value.none (PySem.Value.str (Str.ofString "emacs.errors") 194) (Option.none) (PySem.Value.ref 34) PySem.Value.none 0)) (List.toArray []))) ::
  (nat_lit 36, (kO (.type "tuple") (.seq #[(kS "data" 217), (kS "symbol" 218)] 0) #[])) ::
  (nat_lit 37, (PySem.Obj.mk (PySem.Value.type "dict") (Option.none) (PySem.Data.dict (List.toArray [(PySem.DictEntry.mk (PySem.PyData.keyHash P (Str.ofString "__module__")) (PySem.Value.str (Str.ofString "__module__") 203) (PySem.Value.str (Str.ofString "emacs.errors") 194)), (PySem.DictEntry.mk (PySem.PyData.keyHash P (Str.ofString "__firstlineno__")) (PySem.Value.str (Str.ofString "__firstlineno__") 207) (PySem.Value.int (5 : Int) 206)), (PySem.DictEntry.mk (PySem.PyData.keyHash P (Str.ofString "__init__")) (PySem.Value.str (Str.ofString "__init__") 216) (PySem.Value.ref 35)), (PySem.DictEntry.mk (PySem.PyData.keyHash P (Str.ofString "__static_attributes__")) (PySem.Value.str (Str.ofString "__static_attributes__") 219) (PySem.Value.ref 36)), (PySem.DictEntry.mk (PySem.PyData.keyHash P (Str.ofString "__weakref__")) (PySem.Value.str (Str.ofString "__weakref__") 221) (PySem.Value.ref 39)), (PySem.DictEntry.mk (PySem.PyData.keyHash P (Str.ofString "__doc__")) (PySem.Value.str (Str.ofString "__doc__") 222) PySem.Value.none)]) 3) (List.toArray []))) ::
  (nat_lit 38, (PySem.Obj.mk (PySem.Value.type "type") (Option.none) (PySem.Data.cls (PySem.ClassData.mk (Str.ofString "LispSignal") [(PySem.Value.type "Exception")] [(PySem.Value.ref 38), (PySem.Value.type "Exception"), (PySem.Value.type "BaseException"), (PySem.Value.type "object")] 37 (Str.ofString "LispSignal") Bool.true [] [] Bool.false (Option.none) Bool.false)) (List.toArray [(Option.some (PySem.Value.ref 22)), (Option.none), (Option.some (PySem.Value.str (Str.ofString "LispSignal") 196)), (Option.some (PySem.Value.str (Str.ofString "LispSignal") 204)), (Option.some (PySem.Value.builtin "Exception.__new__")), (Option.some (PySem.Value.bool Bool.true))]))) ::
  (nat_lit 39, (kO (.type "getset_descriptor") (.fields #[(kS "__weakref__" 220), (.ref 38), (.builtin "ExceptionGroup.__weakref__"), .none]) #[])) ::
  (nat_lit 49, (kO (.type "tuple") (.seq #[(kI 8 260), (.bool true), (.bool false), (.bool false), (kI 0 261)] 0) #[])) ::
  (nat_lit 50, (kO (.type "tuple") (.seq #[] 0) #[])) ::
  (nat_lit 52, (kO (.type "tuple") (.seq #[(kS "self" 265), (kS "tab_width" 266), (kS "has_carets" 267), (kS "truncates" 268), (kS "wraps_words" 269), (kS "hscroll" 270)] 0) #[])) ::
  (nat_lit 53, (kO (.type "tuple") (.seq #[] 0) #[])) ::
  (nat_lit 55, (kO (.type "code") (.fields #[(kS "__init__" 262), (kS "Options.__init__" 263), (kS "/claim/cut.py" 264), (kI 22 0), (kI 6 0), (kI 0 0), (kI 0 0), (kI 3 0), (.ref 50), (.bool true), (kI 181 0), (.ref 51), .none, (.ref 52), (.ref 53), (.ref 54), (kI 271 0), (kI 22 0), (kS "/claim/cut.py" 272)]) #[])) ::
  (nat_lit 56, (kO (.type "function") (.func (FuncData.mk (Str.ofString "__init__") (Str.ofString "Options.__init__") (fdP (methS 13 0)) (FuncBody.stmts (fdB (methS 13 0))) (fdS (methS 13 0)) 3 [] (.ref 49) .none .none (kS "emacs.glyphs" 227) none (.ref 55) .none 0)) #[])) ::
  (nat_lit 57, (kO (.type "tuple") (.seq #[(kS "has_carets" 274), (kS "hscroll" 275), (kS "tab_width" 276), (kS "truncates" 277), (kS "wraps_words" 278)] 0) #[])) ::
  (nat_lit 58, (kO (.type "dict") (.dict #[(kE P "__module__" 255 (kS "emacs.glyphs" 227)), (kE P "__firstlineno__" 259 (kI 20 258)), (kE P "__init__" 273 (.ref 56)), (kE P "__static_attributes__" 279 (.ref 57)), (kE P "__dict__" 281 (.ref 60)), (kE P "__weakref__" 283 (.ref 61)), (kE P "__doc__" 284 .none)] 4) #[])) ::
  (nat_lit 59, (kO (.type "type") (.cls (ClassData.mk (Str.ofString "Options") [(.type "object")] [(.ref 59), (.type "object")] 58 (Str.ofString "Options") true [] [] false none false)) #[none, none, (some (kS "Options" 248)), (some (kS "Options" 256)), (some (.builtin "object.__new__")), (some (.bool true))])) ::
  (nat_lit 60, (kO (.type "getset_descriptor") (.fields #[(kS "__dict__" 280), (.ref 59), (.builtin "function.__dict__"), (.builtin "function.__dict__#set")]) #[])) ::
  (nat_lit 61, (kO (.type "getset_descriptor") (.fields #[(kS "__weakref__" 282), (.ref 59), (.builtin "ExceptionGroup.__weakref__"), .none]) #[])) ::
  (nat_lit 64, (kO (.type "tuple") (.seq #[] 0) #[])) ::
  (nat_lit 66, (kO (.type "tuple") (.seq #[(kS "code" 290)] 0) #[])) ::
  (nat_lit 67, (kO (.type "tuple") (.seq #[] 0) #[])) ::
  (nat_lit 69, (kO (.type "code") (.fields #[(kS "is_control" 287), (kS "is_control" 288), (kS "/claim/cut.py" 289), (kI 28 0), (kI 1 0), (kI 0 0), (kI 0 0), (kI 3 0), (.ref 64), (.bool true), (kI 181 0), (.ref 65), .none, (.ref 66), (.ref 67), (.ref 68), (kI 291 0), (kI 28 0), (kS "/claim/cut.py" 292)]) #[])) ::
  (nat_lit 70, (kO (.type "function") (.func (FuncData.mk (Str.ofString "is_control") (Str.ofString "is_control") (fdP (topS 14)) (FuncBody.stmts (fdB (topS 14))) (fdS (topS 14)) 3 [] .none .none .none (kS "emacs.glyphs" 227) none (.ref 69) .none 0)) #[])) ::
  (nat_lit 71, (kO (.type "tuple") (.seq #[] 0) #[])) ::
  (nat_lit 73, (kO (.type "tuple") (.seq #[(kS "code" 297)] 0) #[])) ::
  (nat_lit 74, (kO (.type "tuple") (.seq #[] 0) #[])) ::
  (nat_lit 76, (kO (.type "code") (.fields #[(kS "is_raw" 294), (kS "is_raw" 295), (kS "/claim/cut.py" 296), (kI 30 0), (kI 1 0), (kI 0 0), (kI 0 0), (kI 3 0), (.ref 71), (.bool true), (kI 181 0), (.ref 72), .none, (.ref 73), (.ref 74), (.ref 75), (kI 298 0), (kI 30 0), (kS "/claim/cut.py" 299)]) #[])) ::
  (nat_lit 77, (kO (.type "function") (.func (FuncData.mk (Str.ofString "is_raw") (Str.ofString "is_raw") (fdP (topS 15)) (FuncBody.stmts (fdB (topS 15))) (fdS (topS 15)) 3 [] .none .none .none (kS "emacs.glyphs" 227) none (.ref 76) .none 0)) #[])) ::
  (nat_lit 78, (kO (.type "tuple") (.seq #[] 0) #[])) ::
  (nat_lit 80, (kO (.type "tuple") (.seq #[(kS "code" 304)] 0) #[])) ::
  (nat_lit 81, (kO (.type "tuple") (.seq #[] 0) #[])) ::
  (nat_lit 83, (kO (.type "code") (.fields #[(kS "figures_of" 301), (kS "figures_of" 302), (kS "/claim/cut.py" 303), (kI 32 0), (kI 1 0), (kI 0 0), (kI 0 0), (kI 3 0), (.ref 78), (.bool true), (kI 181 0), (.ref 79), .none, (.ref 80), (.ref 81), (.ref 82), (kI 305 0), (kI 32 0), (kS "/claim/cut.py" 306)]) #[])) ::
  (nat_lit 84, (kO (.type "function") (.func (FuncData.mk (Str.ofString "figures_of") (Str.ofString "figures_of") (fdP (topS 16)) (FuncBody.stmts (fdB (topS 16))) (fdS (topS 16)) 3 [] .none .none .none (kS "emacs.glyphs" 227) none (.ref 83) .none 0)) #[])) ::
  (nat_lit 85, (kO (.type "tuple") (.seq #[] 0) #[])) ::
  (nat_lit 87, (kO (.type "tuple") (.seq #[(kS "code" 311), (kS "column" 312), (kS "options" 313)] 0) #[])) ::
  (nat_lit 88, (kO (.type "tuple") (.seq #[] 0) #[])) ::
  (nat_lit 90, (kO (.type "code") (.fields #[(kS "shown_codes" 308), (kS "shown_codes" 309), (kS "/claim/cut.py" 310), (kI 34 0), (kI 3 0), (kI 0 0), (kI 0 0), (kI 3 0), (.ref 85), (.bool true), (kI 181 0), (.ref 86), .none, (.ref 87), (.ref 88), (.ref 89), (kI 314 0), (kI 34 0), (kS "/claim/cut.py" 315)]) #[])) ::
  (nat_lit 91, (kO (.type "function") (.func (FuncData.mk (Str.ofString "shown_codes") (Str.ofString "shown_codes") (fdP (topS 17)) (FuncBody.stmts (fdB (topS 17))) (fdS (topS 17)) 3 [] .none .none .none (kS "emacs.glyphs" 227) none (.ref 90) .none 0)) #[])) ::
  (nat_lit 99, (kO (.type "tuple") (.seq #[(kI 1 335)] 0) #[])) ::
  (nat_lit 100, (kO (.type "tuple") (.seq #[] 0) #[])) ::
  (nat_lit 102, (kO (.type "tuple") (.seq #[(kS "self" 339), (kS "codes" 340), (kS "begin" 341)] 0) #[])) ::
  (nat_lit 103, (kO (.type "tuple") (.seq #[] 0) #[])) ::
  (nat_lit 105, (kO (.type "code") (.fields #[(kS "__init__" 336), (kS "View.__init__" 337), (kS "/claim/cut.py" 338), (kI 49 0), (kI 3 0), (kI 0 0), (kI 0 0), (kI 3 0), (.ref 100), (.bool true), (kI 181 0), (.ref 101), .none, (.ref 102), (.ref 103), (.ref 104), (kI 342 0), (kI 49 0), (kS "/claim/cut.py" 343)]) #[])) ::
  (nat_lit 106, (kO (.type "function") (.func (FuncData.mk (Str.ofString "__init__") (Str.ofString "View.__init__") (fdP (methS 21 0)) (FuncBody.stmts (fdB (methS 21 0))) (fdS (methS 21 0)) 3 [] (.ref 99) .none .none (kS "emacs.views" 317) none (.ref 105) .none 0)) #[])) ::
  (nat_lit 107, (kO (.type "tuple") (.seq #[] 0) #[])) ::
  (nat_lit 109, (kO (.type "tuple") (.seq #[(kS "self" 348)] 0) #[])) ::
  (nat_lit 110, (kO (.type "tuple") (.seq #[] 0) #[])) ::
  (nat_lit 112, (kO (.type "code") (.fields #[(kS "begin" 345), (kS "View.begin" 346), (kS "/claim/cut.py" 347), (kI 53 0), (kI 1 0), (kI 0 0), (kI 0 0), (kI 3 0), (.ref 107), (.bool true), (kI 181 0), (.ref 108), .none, (.ref 109), (.ref 110), (.ref 111), (kI 349 0), (kI 53 0), (kS "/claim/cut.py" 350)]) #[])) ::
  (nat_lit 113, (kO (.type "function") (.func (FuncData.mk (Str.ofString "begin") (Str.ofString "View.begin") (fdP (methS 21 1)) (FuncBody.stmts (fdB (methS 21 1))) (fdS (methS 21 1)) 3 [] .none .none .none (kS "emacs.views" 317) none (.ref 112) .none 0)) #[])) ::
  (nat_lit 114, (kO (.type "tuple") (.seq #[] 0) #[])) ::
  (nat_lit 116, (kO (.type "tuple") (.seq #[(kS "self" 355)] 0) #[])) ::
  (nat_lit 117, (kO (.type "tuple") (.seq #[] 0) #[])) ::
  (nat_lit 119, (kO (.type "code") (.fields #[(kS "end" 352), (kS "View.end" 353), (kS "/claim/cut.py" 354), (kI 56 0), (kI 1 0), (kI 0 0), (kI 0 0), (kI 3 0), (.ref 114), (.bool true), (kI 181 0), (.ref 115), .none, (.ref 116), (.ref 117), (.ref 118), (kI 356 0), (kI 56 0), (kS "/claim/cut.py" 357)]) #[])) ::
  (nat_lit 120, (kO (.type "function") (.func (FuncData.mk (Str.ofString "end") (Str.ofString "View.end") (fdP (methS 21 2)) (FuncBody.stmts (fdB (methS 21 2))) (fdS (methS 21 2)) 3 [] .none .none .none (kS "emacs.views" 317) none (.ref 119) .none 0)) #[])) ::
  (nat_lit 121, (kO (.type "tuple") (.seq #[] 0) #[])) ::
  (nat_lit 123, (kO (.type "tuple") (.seq #[(kS "self" 362), (kS "place" 363)] 0) #[])) ::
  (nat_lit 124, (kO (.type "tuple") (.seq #[] 0) #[])) ::
  (nat_lit 126, (kO (.type "code") (.fields #[(kS "code_at" 359), (kS "View.code_at" 360), (kS "/claim/cut.py" 361), (kI 59 0), (kI 2 0), (kI 0 0), (kI 0 0), (kI 3 0), (.ref 121), (.bool true), (kI 181 0), (.ref 122), .none, (.ref 123), (.ref 124), (.ref 125), (kI 364 0), (kI 59 0), (kS "/claim/cut.py" 365)]) #[])) ::
  (nat_lit 127, (kO (.type "function") (.func (FuncData.mk (Str.ofString "code_at") (Str.ofString "View.code_at") (fdP (methS 21 3)) (FuncBody.stmts (fdB (methS 21 3))) (fdS (methS 21 3)) 3 [] .none .none .none (kS "emacs.views" 317) none (.ref 126) .none 0)) #[])) ::
  (nat_lit 128, (kO (.type "tuple") (.seq #[] 0) #[])) ::
  (nat_lit 130, (kO (.type "tuple") (.seq #[(kS "self" 370), (kS "place" 371)] 0) #[])) ::
  (nat_lit 131, (kO (.type "tuple") (.seq #[] 0) #[])) ::
  (nat_lit 133, (kO (.type "code") (.fields #[(kS "faces_at" 367), (kS "View.faces_at" 368), (kS "/claim/cut.py" 369), (kI 62 0), (kI 2 0), (kI 0 0), (kI 0 0), (kI 3 0), (.ref 128), (.bool true), (kI 181 0), (.ref 129), .none, (.ref 130), (.ref 131), (.ref 132), (kI 372 0), (kI 62 0), (kS "/claim/cut.py" 373)]) #[])) ::
  (nat_lit 134, (kO (.type "function") (.func (FuncData.mk (Str.ofString "faces_at") (Str.ofString "View.faces_at") (fdP (methS 21 4)) (FuncBody.stmts (fdB (methS 21 4))) (fdS (methS 21 4)) 3 [] .none .none .none (kS "emacs.views" 317) none (.ref 133) .none 0)) #[])) ::
  (nat_lit 135, (kO (.type "tuple") (.seq #[] 0) #[])) ::
  (nat_lit 137, (kO (.type "tuple") (.seq #[(kS "self" 378), (kS "place" 379)] 0) #[])) ::
  (nat_lit 138, (kO (.type "tuple") (.seq #[] 0) #[])) ::
  (nat_lit 140, (kO (.type "code") (.fields #[(kS "hidden_at" 375), (kS "View.hidden_at" 376), (kS "/claim/cut.py" 377), (kI 65 0), (kI 2 0), (kI 0 0), (kI 0 0), (kI 3 0), (.ref 135), (.bool true), (kI 181 0), (.ref 136), .none, (.ref 137), (.ref 138), (.ref 139), (kI 380 0), (kI 65 0), (kS "/claim/cut.py" 381)]) #[])) ::
  (nat_lit 141, (kO (.type "function") (.func (FuncData.mk (Str.ofString "hidden_at") (Str.ofString "View.hidden_at") (fdP (methS 21 5)) (FuncBody.stmts (fdB (methS 21 5))) (fdS (methS 21 5)) 3 [] .none .none .none (kS "emacs.views" 317) none (.ref 140) .none 0)) #[])) ::
  (nat_lit 142, (kO (.type "tuple") (.seq #[] 0) #[])) ::
  (nat_lit 144, (kO (.type "tuple") (.seq #[(kS "self" 386), (kS "place" 387)] 0) #[])) ::
  (nat_lit 145, (kO (.type "tuple") (.seq #[] 0) #[])) ::
  (nat_lit 147, (kO (.type "code") (.fields #[(kS "shown_at" 383), (kS "View.shown_at" 384), (kS "/claim/cut.py" 385), (kI 68 0), (kI 2 0), (kI 0 0), (kI 0 0), (kI 3 0), (.ref 142), (.bool true), (kI 181 0), (.ref 143), .none, (.ref 144), (.ref 145), (.ref 146), (kI 388 0), (kI 68 0), (kS "/claim/cut.py" 389)]) #[])) ::
  (nat_lit 148, (kO (.type "function") (.func (FuncData.mk (Str.ofString "shown_at") (Str.ofString "View.shown_at") (fdP (methS 21 6)) (FuncBody.stmts (fdB (methS 21 6))) (fdS (methS 21 6)) 3 [] .none .none .none (kS "emacs.views" 317) none (.ref 147) .none 0)) #[])) ::
  (nat_lit 149, (kO (.type "tuple") (.seq #[] 0) #[])) ::
  (nat_lit 151, (kO (.type "tuple") (.seq #[(kS "self" 394), (kS "place" 395)] 0) #[])) ::
  (nat_lit 152, (kO (.type "tuple") (.seq #[] 0) #[])) ::
  (nat_lit 154, (kO (.type "code") (.fields #[(kS "strings_at" 391), (kS "View.strings_at" 392), (kS "/claim/cut.py" 393), (kI 71 0), (kI 2 0), (kI 0 0), (kI 0 0), (kI 3 0), (.ref 149), (.bool true), (kI 181 0), (.ref 150), .none, (.ref 151), (.ref 152), (.ref 153), (kI 396 0), (kI 71 0), (kS "/claim/cut.py" 397)]) #[])) ::
  (nat_lit 155, (kO (.type "function") (.func (FuncData.mk (Str.ofString "strings_at") (Str.ofString "View.strings_at") (fdP (methS 21 7)) (FuncBody.stmts (fdB (methS 21 7))) (fdS (methS 21 7)) 3 [] .none .none .none (kS "emacs.views" 317) none (.ref 154) .none 0)) #[])) ::
  (nat_lit 156, (kO (.type "tuple") (.seq #[(kS "codes" 399), (kS "first" 400)] 0) #[])) ::
  (nat_lit 157, (kO (.type "dict") (.dict #[(kE P "__module__" 330 (kS "emacs.views" 317)), (kE P "__firstlineno__" 334 (kI 47 333)), (kE P "__init__" 344 (.ref 106)), (kE P "begin" 351 (.ref 113)), (kE P "end" 358 (.ref 120)), (kE P "code_at" 366 (.ref 127)), (kE P "faces_at" 374 (.ref 134)), (kE P "hidden_at" 382 (.ref 141)), (kE P "shown_at" 390 (.ref 148)), (kE P "strings_at" 398 (.ref 155)), (kE P "__static_attributes__" 401 (.ref 156)), (kE P "__dict__" 403 (.ref 159)), (kE P "__weakref__" 405 (.ref 160)), (kE P "__doc__" 406 .none)] 4) #[])) ::
  (nat_lit 158, (kO (.type "type") (.cls (ClassData.mk (Str.ofString "View") [(.type "object")] [(.ref 158), (.type "object")] 157 (Str.ofString "View") true [] [] false none false)) #[none, none, (some (kS "View" 323)), (some (kS "View" 331)), (some (.builtin "object.__new__")), (some (.bool true))])) ::
  (nat_lit 159, (kO (.type "getset_descriptor") (.fields #[(kS "__dict__" 402), (.ref 158), (.builtin "function.__dict__"), (.builtin "function.__dict__#set")]) #[])) ::
  (nat_lit 160, (kO (.type "getset_descriptor") (.fields #[(kS "__weakref__" 404), (.ref 158), (.builtin "ExceptionGroup.__weakref__"), .none]) #[])) ::
  (nat_lit 170, (kO (.type "tuple") (.seq #[] 0) #[])) ::
  (nat_lit 172, (kO (.type "tuple") (.seq #[(kS "self" 426), (kS "rows" 427), (kS "after" 428), (kS "reach" 429)] 0) #[])) ::
  (nat_lit 173, (kO (.type "tuple") (.seq #[] 0) #[])) ::
  (nat_lit 175, (kO (.type "code") (.fields #[(kS "__init__" 423), (kS "Signs.__init__" 424), (kS "/claim/cut.py" 425), (kI 76 0), (kI 4 0), (kI 0 0), (kI 0 0), (kI 3 0), (.ref 170), (.bool true), (kI 181 0), (.ref 171), .none, (.ref 172), (.ref 173), (.ref 174), (kI 430 0), (kI 76 0), (kS "/claim/cut.py" 431)]) #[])) ::
  (nat_lit 176, (kO (.type "function") (.func (FuncData.mk (Str.ofString "__init__") (Str.ofString "Signs.__init__") (fdP (methS 23 0)) (FuncBody.stmts (fdB (methS 23 0))) (fdS (methS 23 0)) 3 [] .none .none .none (kS "emacs.signs" 409) none (.ref 175) .none 0)) #[])) ::
  (nat_lit 177, (kO (.type "tuple") (.seq #[(kS "after" 433), (kS "reach" 434), (kS "rows" 435)] 0) #[])) ::
  (nat_lit 178, (kO (.type "dict") (.dict #[(kE P "__module__" 418 (kS "emacs.signs" 409)), (kE P "__firstlineno__" 422 (kI 74 421)), (kE P "__init__" 432 (.ref 176)), (kE P "__static_attributes__" 436 (.ref 177)), (kE P "__dict__" 438 (.ref 180)), (kE P "__weakref__" 440 (.ref 181)), (kE P "__doc__" 441 .none)] 4) #[])) ::
  (nat_lit 179, (kO (.type "type") (.cls (ClassData.mk (Str.ofString "Signs") [(.type "object")] [(.ref 179), (.type "object")] 178 (Str.ofString "Signs") true [] [] false none false)) #[none, none, (some (kS "Signs" 411)), (some (kS "Signs" 419)), (some (.builtin "object.__new__")), (some (.bool true))])) ::
  (nat_lit 180, (kO (.type "getset_descriptor") (.fields #[(kS "__dict__" 437), (.ref 179), (.builtin "function.__dict__"), (.builtin "function.__dict__#set")]) #[])) ::
  (nat_lit 181, (kO (.type "getset_descriptor") (.fields #[(kS "__weakref__" 439), (.ref 179), (.builtin "ExceptionGroup.__weakref__"), .none]) #[])) ::
  (nat_lit 184, (kO (.type "tuple") (.seq #[] 0) #[])) ::
  (nat_lit 186, (kO (.type "tuple") (.seq #[(kS "view" 447), (kS "place" 448)] 0) #[])) ::
  (nat_lit 187, (kO (.type "tuple") (.seq #[] 0) #[])) ::
  (nat_lit 189, (kO (.type "code") (.fields #[(kS "is_break" 444), (kS "is_break" 445), (kS "/claim/cut.py" 446), (kI 80 0), (kI 2 0), (kI 0 0), (kI 0 0), (kI 3 0), (.ref 184), (.bool true), (kI 181 0), (.ref 185), .none, (.ref 186), (.ref 187), (.ref 188), (kI 449 0), (kI 80 0), (kS "/claim/cut.py" 450)]) #[])) ::
  (nat_lit 190, (kO (.type "function") (.func (FuncData.mk (Str.ofString "is_break") (Str.ofString "is_break") (fdP (topS 24)) (FuncBody.stmts (fdB (topS 24))) (fdS (topS 24)) 3 [] .none .none .none (kS "emacs.signs" 409) none (.ref 189) .none 0)) #[])) ::
  (nat_lit 191, (kO (.type "tuple") (.seq #[] 0) #[])) ::
  (nat_lit 193, (kO (.type "tuple") (.seq #[(kS "view" 455), (kS "place" 456)] 0) #[])) ::
  (nat_lit 194, (kO (.type "tuple") (.seq #[] 0) #[])) ::
  (nat_lit 196, (kO (.type "code") (.fields #[(kS "hidden_end" 452), (kS "hidden_end" 453), (kS "/claim/cut.py" 454), (kI 82 0), (kI 2 0), (kI 0 0), (kI 0 0), (kI 3 0), (.ref 191), (.bool true), (kI 181 0), (.ref 192), .none, (.ref 193), (.ref 194), (.ref 195), (kI 457 0), (kI 82 0), (kS "/claim/cut.py" 458)]) #[])) ::
  (nat_lit 197, (kO (.type "function") (.func (FuncData.mk (Str.ofString "hidden_end") (Str.ofString "hidden_end") (fdP (topS 25)) (FuncBody.stmts (fdB (topS 25))) (fdS (topS 25)) 3 [] .none .none .none (kS "emacs.signs" 409) none (.ref 196) .none 0)) #[])) ::
  (nat_lit 198, (kO (.type "tuple") (.seq #[] 0) #[])) ::
  (nat_lit 200, (kO (.type "tuple") (.seq #[(kS "view" 463), (kS "place" 464)] 0) #[])) ::
  (nat_lit 201, (kO (.type "tuple") (.seq #[] 0) #[])) ::
  (nat_lit 203, (kO (.type "code") (.fields #[(kS "hidden_begin" 460), (kS "hidden_begin" 461), (kS "/claim/cut.py" 462), (kI 86 0), (kI 2 0), (kI 0 0), (kI 0 0), (kI 3 0), (.ref 198), (.bool true), (kI 181 0), (.ref 199), .none, (.ref 200), (.ref 201), (.ref 202), (kI 465 0), (kI 86 0), (kS "/claim/cut.py" 466)]) #[])) ::
  (nat_lit 204, (kO (.type "function") (.func (FuncData.mk (Str.ofString "hidden_begin") (Str.ofString "hidden_begin") (fdP (topS 26)) (FuncBody.stmts (fdB (topS 26))) (fdS (topS 26)) 3 [] .none .none .none (kS "emacs.signs" 409) none (.ref 203) .none 0)) #[])) ::
  (nat_lit 205, (kO (.type "tuple") (.seq #[] 0) #[])) ::
  (nat_lit 207, (kO (.type "tuple") (.seq #[(kS "view" 471), (kS "place" 472), (kS "begin" 473)] 0) #[])) ::
  (nat_lit 208, (kO (.type "tuple") (.seq #[] 0) #[])) ::
  (nat_lit 210, (kO (.type "code") (.fields #[(kS "shown_place" 468), (kS "shown_place" 469), (kS "/claim/cut.py" 470), (kI 90 0), (kI 2 0), (kI 0 0), (kI 0 0), (kI 3 0), (.ref 205), (.bool true), (kI 181 0), (.ref 206), .none, (.ref 207), (.ref 208), (.ref 209), (kI 474 0), (kI 90 0), (kS "/claim/cut.py" 475)]) #[])) ::
  (nat_lit 211, (kO (.type "function") (.func (FuncData.mk (Str.ofString "shown_place") (Str.ofString "shown_place") (fdP (topS 27)) (FuncBody.stmts (fdB (topS 27))) (fdS (topS 27)) 3 [] .none .none .none (kS "emacs.signs" 409) none (.ref 210) .none 0)) #[])) ::
  (nat_lit 212, (kO (.type "tuple") (.seq #[] 0) #[])) ::
  (nat_lit 215, (kO (.type "code") (.fields #[(kS "string_signs" 477), (kS "string_signs" 478), (kS "/claim/cut.py" 479), (kI 95 0), (kI 3 0), (kI 0 0), (kI 0 0), (kI 3 0), (.ref 212), (.bool true), (kI 181 0), (.ref 213), .none, .none, .none, (.ref 214), (kI 480 0), (kI 95 0), (kS "/claim/cut.py" 481)]) #[])) ::
  (nat_lit 216, (kO (.type "function") (.func (FuncData.mk (Str.ofString "string_signs") (Str.ofString "string_signs") (fdP (topS 28)) (FuncBody.stmts (fdB (topS 28))) (fdS (topS 28)) 3 [] .none .none .none (kS "emacs.signs" 409) none (.ref 215) .none 0)) #[])) ::
  (nat_lit 217, (kO (.type "tuple") (.seq #[] 0) #[])) ::
  (nat_lit 220, (kO (.type "code") (.fields #[(kS "string_count" 483), (kS "string_count" 484), (kS "/claim/cut.py" 485), (kI 101 0), (kI 2 0), (kI 0 0), (kI 0 0), (kI 3 0), (.ref 217), (.bool true), (kI 181 0), (.ref 218), .none, .none, .none, (.ref 219), (kI 486 0), (kI 101 0), (kS "/claim/cut.py" 487)]) #[])) ::
  (nat_lit 221, (kO (.type "function") (.func (FuncData.mk (Str.ofString "string_count") (Str.ofString "string_count") (fdP (topS 29)) (FuncBody.stmts (fdB (topS 29))) (fdS (topS 29)) 3 [] .none .none .none (kS "emacs.signs" 409) none (.ref 220) .none 0)) #[])) ::
  (nat_lit 222, (kO (.type "tuple") (.seq #[] 0) #[])) ::
  (nat_lit 224, (kO (.type "tuple") (.seq #[(kS "view" 492), (kS "table" 493), (kS "place" 494), (kS "ahead" 495), (kS "after" 496), (kS "point" 497)] 0) #[])) ::
  (nat_lit 225, (kO (.type "tuple") (.seq #[] 0) #[])) ::
  (nat_lit 227, (kO (.type "code") (.fields #[(kS "hidden_signs" 489), (kS "hidden_signs" 490), (kS "/claim/cut.py" 491), (kI 103 0), (kI 4 0), (kI 0 0), (kI 0 0), (kI 3 0), (.ref 222), (.bool true), (kI 181 0), (.ref 223), .none, (.ref 224), (.ref 225), (.ref 226), (kI 498 0), (kI 103 0), (kS "/claim/cut.py" 499)]) #[])) ::
  (nat_lit 228, (kO (.type "function") (.func (FuncData.mk (Str.ofString "hidden_signs") (Str.ofString "hidden_signs") (fdP (topS 30)) (FuncBody.stmts (fdB (topS 30))) (fdS (topS 30)) 3 [] .none .none .none (kS "emacs.signs" 409) none (.ref 227) .none 0)) #[])) ::
  (nat_lit 229, (kO (.type "tuple") (.seq #[] 0) #[])) ::
  (nat_lit 232, (kO (.type "code") (.fields #[(kS "signs_at" 501), (kS "signs_at" 502), (kS "/claim/cut.py" 503), (kI 109 0), (kI 3 0), (kI 0 0), (kI 0 0), (kI 3 0), (.ref 229), (.bool true), (kI 181 0), (.ref 230), .none, .none, .none, (.ref 231), (kI 504 0), (kI 109 0), (kS "/claim/cut.py" 505)]) #[])) ::
  (nat_lit 233, (kO (.type "function") (.func (FuncData.mk (Str.ofString "signs_at") (Str.ofString "signs_at") (fdP (topS 31)) (FuncBody.stmts (fdB (topS 31))) (fdS (topS 31)) 3 [] .none .none .none (kS "emacs.signs" 409) none (.ref 232) .none 0)) #[])) ::
  (nat_lit 241, (kO (.type "tuple") (.seq #[] 0) #[])) ::
  (nat_lit 243, (kO (.type "tuple") (.seq #[(kS "self" 522), (kS "view" 523), (kS "table" 524), (kS "spot" 525)] 0) #[])) ::
  (nat_lit 244, (kO (.type "tuple") (.seq #[] 0) #[])) ::
  (nat_lit 246, (kO (.type "code") (.fields #[(kS "__init__" 519), (kS "Walk.__init__" 520), (kS "/claim/cut.py" 521), (kI 124 0), (kI 4 0), (kI 0 0), (kI 0 0), (kI 3 0), (.ref 241), (.bool true), (kI 181 0), (.ref 242), .none, (.ref 243), (.ref 244), (.ref 245), (kI 526 0), (kI 124 0), (kS "/claim/cut.py" 527)]) #[])) ::
  (nat_lit 247, (kO (.type "function") (.func (FuncData.mk (Str.ofString "__init__") (Str.ofString "Walk.__init__") (fdP (methS 32 0)) (FuncBody.stmts (fdB (methS 32 0))) (fdS (methS 32 0)) 3 [] .none .none .none (kS "emacs.signs" 409) none (.ref 246) .none 0)) #[])) ::
  (nat_lit 248, (kO (.type "tuple") (.seq #[] 0) #[])) ::
  (nat_lit 250, (kO (.type "tuple") (.seq #[(kS "self" 532)] 0) #[])) ::
  (nat_lit 251, (kO (.type "tuple") (.seq #[] 0) #[])) ::
  (nat_lit 253, (kO (.type "code") (.fields #[(kS "settle" 529), (kS "Walk.settle" 530), (kS "/claim/cut.py" 531), (kI 131 0), (kI 1 0), (kI 0 0), (kI 0 0), (kI 3 0), (.ref 248), (.bool true), (kI 181 0), (.ref 249), .none, (.ref 250), (.ref 251), (.ref 252), (kI 533 0), (kI 131 0), (kS "/claim/cut.py" 534)]) #[])) ::
  (nat_lit 254, (kO (.type "function") (.func (FuncData.mk (Str.ofString "settle") (Str.ofString "Walk.settle") (fdP (methS 32 1)) (FuncBody.stmts (fdB (methS 32 1))) (fdS (methS 32 1)) 3 [] .none .none .none (kS "emacs.signs" 409) none (.ref 253) .none 0)) #[])) ::
  (nat_lit 255, (kO (.type "tuple") (.seq #[] 0) #[])) ::
  (nat_lit 257, (kO (.type "tuple") (.seq #[(kS "self" 539)] 0) #[])) ::
  (nat_lit 258, (kO (.type "tuple") (.seq #[] 0) #[])) ::
  (nat_lit 260, (kO (.type "code") (.fields #[(kS "sign" 536), (kS "Walk.sign" 537), (kS "/claim/cut.py" 538), (kI 141 0), (kI 1 0), (kI 0 0), (kI 0 0), (kI 3 0), (.ref 255), (.bool true), (kI 181 0), (.ref 256), .none, (.ref 257), (.ref 258), (.ref 259), (kI 540 0), (kI 141 0), (kS "/claim/cut.py" 541)]) #[])) ::
  (nat_lit 261, (kO (.type "function") (.func (FuncData.mk (Str.ofString "sign") (Str.ofString "Walk.sign") (fdP (methS 32 2)) (FuncBody.stmts (fdB (methS 32 2))) (fdS (methS 32 2)) 3 [] .none .none .none (kS "emacs.signs" 409) none (.ref 260) .none 0)) #[])) ::
  (nat_lit 262, (kO (.type "tuple") (.seq #[] 0) #[])) ::
  (nat_lit 264, (kO (.type "tuple") (.seq #[(kS "self" 546)] 0) #[])) ::
  (nat_lit 265, (kO (.type "tuple") (.seq #[] 0) #[])) ::
  (nat_lit 267, (kO (.type "code") (.fields #[(kS "step" 543), (kS "Walk.step" 544), (kS "/claim/cut.py" 545), (kI 144 0), (kI 1 0), (kI 0 0), (kI 0 0), (kI 3 0), (.ref 262), (.bool true), (kI 181 0), (.ref 263), .none, (.ref 264), (.ref 265), (.ref 266), (kI 547 0), (kI 144 0), (kS "/claim/cut.py" 548)]) #[])) ::
  (nat_lit 268, (kO (.type "function") (.func (FuncData.mk (Str.ofString "step") (Str.ofString "Walk.step") (fdP (methS 32 3)) (FuncBody.stmts (fdB (methS 32 3))) (fdS (methS 32 3)) 3 [] .none .none .none (kS "emacs.signs" 409) none (.ref 267) .none 0)) #[])) ::
  (nat_lit 269, (kO (.type "tuple") (.seq #[] 0) #[])) ::
  (nat_lit 271, (kO (.type "tuple") (.seq #[(kS "self" 553)] 0) #[])) ::
  (nat_lit 272, (kO (.type "tuple") (.seq #[] 0) #[])) ::
  (nat_lit 274, (kO (.type "code") (.fields #[(kS "spot" 550), (kS "Walk.spot" 551), (kS "/claim/cut.py" 552), (kI 147 0), (kI 1 0), (kI 0 0), (kI 0 0), (kI 3 0), (.ref 269), (.bool true), (kI 181 0), (.ref 270), .none, (.ref 271), (.ref 272), (.ref 273), (kI 554 0), (kI 147 0), (kS "/claim/cut.py" 555)]) #[])) ::
  (nat_lit 275, (kO (.type "function") (.func (FuncData.mk (Str.ofString "spot") (Str.ofString "Walk.spot") (fdP (methS 32 4)) (FuncBody.stmts (fdB (methS 32 4))) (fdS (methS 32 4)) 3 [] .none .none .none (kS "emacs.signs" 409) none (.ref 274) .none 0)) #[])) ::
  (nat_lit 276, (kO (.type "tuple") (.seq #[(kS "here" 557), (kS "number" 558), (kS "place" 559), (kS "reach" 560), (kS "table" 561), (kS "view" 562)] 0) #[])) ::
  (nat_lit 277, (kO (.type "dict") (.dict #[(kE P "__module__" 514 (kS "emacs.signs" 409)), (kE P "__firstlineno__" 518 (kI 122 517)), (kE P "__init__" 528 (.ref 247)), (kE P "settle" 535 (.ref 254)), (kE P "sign" 542 (.ref 261)), (kE P "step" 549 (.ref 268)), (kE P "spot" 556 (.ref 275)), (kE P "__static_attributes__" 563 (.ref 276)), (kE P "__dict__" 565 (.ref 279)), (kE P "__weakref__" 567 (.ref 280)), (kE P "__doc__" 568 .none)] 4) #[])) ::
  (nat_lit 278, (kO (.type "type") (.cls (ClassData.mk (Str.ofString "Walk") [(.type "object")] [(.ref 278), (.type "object")] 277 (Str.ofString "Walk") true [] [] false none false)) #[none, none, (some (kS "Walk" 507)), (some (kS "Walk" 515)), (some (.builtin "object.__new__")), (some (.bool true))])) ::
  (nat_lit 279, (kO (.type "getset_descriptor") (.fields #[(kS "__dict__" 564), (.ref 278), (.builtin "function.__dict__"), (.builtin "function.__dict__#set")]) #[])) ::
  (nat_lit 280, (kO (.type "getset_descriptor") (.fields #[(kS "__weakref__" 566), (.ref 278), (.builtin "ExceptionGroup.__weakref__"), .none]) #[])) ::
  (nat_lit 290, (kO (.type "tuple") (.seq #[] 0) #[])) ::
  (nat_lit 292, (kO (.type "tuple") (.seq #[(kS "self" 588), (kS "start" 589), (kS "column" 590)] 0) #[])) ::
  (nat_lit 293, (kO (.type "tuple") (.seq #[] 0) #[])) ::
  (nat_lit 295, (kO (.type "code") (.fields #[(kS "__init__" 585), (kS "Row.__init__" 586), (kS "/claim/cut.py" 587), (kI 153 0), (kI 3 0), (kI 0 0), (kI 0 0), (kI 3 0), (.ref 290), (.bool true), (kI 181 0), (.ref 291), .none, (.ref 292), (.ref 293), (.ref 294), (kI 591 0), (kI 153 0), (kS "/claim/cut.py" 592)]) #[])) ::
  (nat_lit 296, (kO (.type "function") (.func (FuncData.mk (Str.ofString "__init__") (Str.ofString "Row.__init__") (fdP (methS 34 0)) (FuncBody.stmts (fdB (methS 34 0))) (fdS (methS 34 0)) 3 [] .none .none .none (kS "emacs.rows" 571) none (.ref 295) .none 0)) #[])) ::
  (nat_lit 297, (kO (.type "tuple") (.seq #[] 0) #[])) ::
  (nat_lit 299, (kO (.type "tuple") (.seq #[(kS "self" 597), (kS "walk" 598), (kS "column" 599)] 0) #[])) ::
  (nat_lit 300, (kO (.type "tuple") (.seq #[] 0) #[])) ::
  (nat_lit 302, (kO (.type "code") (.fields #[(kS "stop" 594), (kS "Row.stop" 595), (kS "/claim/cut.py" 596), (kI 165 0), (kI 3 0), (kI 0 0), (kI 0 0), (kI 3 0), (.ref 297), (.bool true), (kI 181 0), (.ref 298), .none, (.ref 299), (.ref 300), (.ref 301), (kI 600 0), (kI 165 0), (kS "/claim/cut.py" 601)]) #[])) ::
  (nat_lit 303, (kO (.type "function") (.func (FuncData.mk (Str.ofString "stop") (Str.ofString "Row.stop") (fdP (methS 34 1)) (FuncBody.stmts (fdB (methS 34 1))) (fdS (methS 34 1)) 3 [] .none .none .none (kS "emacs.rows" 571) none (.ref 302) .none 0)) #[])) ::
  (nat_lit 304, (kO (.type "tuple") (.seq #[] 0) #[])) ::
  (nat_lit 306, (kO (.type "tuple") (.seq #[(kS "self" 606), (kS "many" 607), (kS "spot" 608), (kS "column" 609)] 0) #[])) ::
  (nat_lit 307, (kO (.type "tuple") (.seq #[] 0) #[])) ::
  (nat_lit 309, (kO (.type "code") (.fields #[(kS "cut_back" 603), (kS "Row.cut_back" 604), (kS "/claim/cut.py" 605), (kI 170 0), (kI 4 0), (kI 0 0), (kI 0 0), (kI 3 0), (.ref 304), (.bool true), (kI 181 0), (.ref 305), .none, (.ref 306), (.ref 307), (.ref 308), (kI 610 0), (kI 170 0), (kS "/claim/cut.py" 611)]) #[])) ::
  (nat_lit 310, (kO (.type "function") (.func (FuncData.mk (Str.ofString "cut_back") (Str.ofString "Row.cut_back") (fdP (methS 34 2)) (FuncBody.stmts (fdB (methS 34 2))) (fdS (methS 34 2)) 3 [] .none .none .none (kS "emacs.rows" 571) none (.ref 309) .none 0)) #[])) ::
  (nat_lit 311, (kO (.type "tuple") (.seq #[(kS "column" 613), (kS "end" 614), (kS "glyphs" 615), (kS "is_break" 616), (kS "is_end" 617), (kS "is_line_end" 618), (kS "mark" 619), (kS "next_column" 620), (kS "reach" 621), (kS "start" 622)] 0) #[])) ::
  (nat_lit 312, (kO (.type "dict") (.dict #[(kE P "__module__" 580 (kS "emacs.rows" 571)), (kE P "__firstlineno__" 584 (kI 151 583)), (kE P "__init__" 593 (.ref 296)), (kE P "stop" 602 (.ref 303)), (kE P "cut_back" 612 (.ref 310)), (kE P "__static_attributes__" 623 (.ref 311)), (kE P "__dict__" 625 (.ref 314)), (kE P "__weakref__" 627 (.ref 315)), (kE P "__doc__" 628 .none)] 4) #[])) ::
  (nat_lit 313, (kO (.type "type") (.cls (ClassData.mk (Str.ofString "Row") [(.type "object")] [(.ref 313), (.type "object")] 312 (Str.ofString "Row") true [] [] false none false)) #[none, none, (some (kS "Row" 573)), (some (kS "Row" 581)), (some (.builtin "object.__new__")), (some (.bool true))])) ::
  (nat_lit 314, (kO (.type "getset_descriptor") (.fields #[(kS "__dict__" 624), (.ref 313), (.builtin "function.__dict__"), (.builtin "function.__dict__#set")]) #[])) ::
  (nat_lit 315, (kO (.type "getset_descriptor") (.fields #[(kS "__weakref__" 626), (.ref 313), (.builtin "ExceptionGroup.__weakref__"), .none]) #[])) ::
  (nat_lit 318, (kO (.type "tuple") (.seq #[] 0) #[])) ::
  (nat_lit 320, (kO (.type "tuple") (.seq #[(kS "row" 634), (kS "sign" 635), (kS "codes" 636), (kS "code" 637)] 0) #[])) ::
  (nat_lit 321, (kO (.type "tuple") (.seq #[] 0) #[])) ::
  (nat_lit 323, (kO (.type "code") (.fields #[(kS "put_sign" 631), (kS "put_sign" 632), (kS "/claim/cut.py" 633), (kI 174 0), (kI 3 0), (kI 0 0), (kI 0 0), (kI 3 0), (.ref 318), (.bool true), (kI 181 0), (.ref 319), .none, (.ref 320), (.ref 321), (.ref 322), (kI 638 0), (kI 174 0), (kS "/claim/cut.py" 639)]) #[])) ::
  (nat_lit 324, (kO (.type "function") (.func (FuncData.mk (Str.ofString "put_sign") (Str.ofString "put_sign") (fdP (topS 35)) (FuncBody.stmts (fdB (topS 35))) (fdS (topS 35)) 3 [] .none .none .none (kS "emacs.rows" 571) none (.ref 323) .none 0)) #[])) ::
  (nat_lit 325, (kO (.type "tuple") (.seq #[] 0) #[])) ::
  (nat_lit 327, (kO (.type "tuple") (.seq #[(kS "row" 644), (kS "walk" 645), (kS "sign" 646), (kS "column" 647)] 0) #[])) ::
  (nat_lit 328, (kO (.type "tuple") (.seq #[] 0) #[])) ::
  (nat_lit 330, (kO (.type "code") (.fields #[(kS "end_of_line" 641), (kS "end_of_line" 642), (kS "/claim/cut.py" 643), (kI 177 0), (kI 4 0), (kI 0 0), (kI 0 0), (kI 3 0), (.ref 325), (.bool true), (kI 181 0), (.ref 326), .none, (.ref 327), (.ref 328), (.ref 329), (kI 648 0), (kI 177 0), (kS "/claim/cut.py" 649)]) #[])) ::
  (nat_lit 331, (kO (.type "function") (.func (FuncData.mk (Str.ofString "end_of_line") (Str.ofString "end_of_line") (fdP (topS 36)) (FuncBody.stmts (fdB (topS 36))) (fdS (topS 36)) 3 [] .none .none .none (kS "emacs.rows" 571) none (.ref 330) .none 0)) #[])) ::
  (nat_lit 332, (kO (.type "tuple") (.seq #[] 0) #[])) ::
  (nat_lit 334, (kO (.type "tuple") (.seq #[(kS "row" 654), (kS "walk" 655), (kS "sign" 656), (kS "codes" 657), (kS "column" 658), (kS "room" 659), (kS "last_break" 660), (kS "used" 661)] 0) #[])) ::
  (nat_lit 335, (kO (.type "tuple") (.seq #[] 0) #[])) ::
  (nat_lit 337, (kO (.type "code") (.fields #[(kS "overflow" 651), (kS "overflow" 652), (kS "/claim/cut.py" 653), (kI 186 0), (kI 7 0), (kI 0 0), (kI 0 0), (kI 3 0), (.ref 332), (.bool true), (kI 181 0), (.ref 333), .none, (.ref 334), (.ref 335), (.ref 336), (kI 662 0), (kI 186 0), (kS "/claim/cut.py" 663)]) #[])) ::
  (nat_lit 338, (kO (.type "function") (.func (FuncData.mk (Str.ofString "overflow") (Str.ofString "overflow") (fdP (topS 37)) (FuncBody.stmts (fdB (topS 37))) (fdS (topS 37)) 3 [] .none .none .none (kS "emacs.rows" 571) none (.ref 337) .none 0)) #[])) ::
  (nat_lit 339, (kO (.type "tuple") (.seq #[] 0) #[])) ::
  (nat_lit 341, (kO (.type "tuple") (.seq #[(kS "view" 668), (kS "table" 669), (kS "spot" 670), (kS "column" 671), (kS "width" 672), (kS "options" 673), (kS "walk" 674), (kS "room" 675), (kS "last_break" 676), (kS "row" 677), (kS "sign" 678), (kS "codes" 679)] 0) #[])) ::
  (nat_lit 342, (kO (.type "tuple") (.seq #[] 0) #[])) ::
  (nat_lit 344, (kO (.type "code") (.fields #[(kS "folded_row" 665), (kS "folded_row" 666), (kS "/claim/cut.py" 667), (kI 196 0), (kI 6 0), (kI 0 0), (kI 0 0), (kI 3 0), (.ref 339), (.bool true), (kI 181 0), (.ref 340), .none, (.ref 341), (.ref 342), (.ref 343), (kI 680 0), (kI 196 0), (kS "/claim/cut.py" 681)]) #[])) ::
  (nat_lit 345, (kO (.type "function") (.func (FuncData.mk (Str.ofString "folded_row") (Str.ofString "folded_row") (fdP (topS 38)) (FuncBody.stmts (fdB (topS 38))) (fdS (topS 38)) 3 [] .none .none .none (kS "emacs.rows" 571) none (.ref 344) .none 0)) #[])) ::
  (nat_lit 346, (kO (.type "tuple") (.seq #[] 0) #[])) ::
  (nat_lit 348, (kO (.type "tuple") (.seq #[(kS "view" 686), (kS "table" 687), (kS "spot" 688), (kS "width" 689), (kS "options" 690), (kS "walk" 691), (kS "column" 692), (kS "left" 693), (kS "row" 694), (kS "right" 695), (kS "sign" 696), (kS "codes" 697)] 0) #[])) ::
  (nat_lit 349, (kO (.type "tuple") (.seq #[] 0) #[])) ::
  (nat_lit 351, (kO (.type "code") (.fields #[(kS "cut_row" 683), (kS "cut_row" 684), (kS "/claim/cut.py" 685), (kI 214 0), (kI 5 0), (kI 0 0), (kI 0 0), (kI 3 0), (.ref 346), (.bool true), (kI 181 0), (.ref 347), .none, (.ref 348), (.ref 349), (.ref 350), (kI 698 0), (kI 214 0), (kS "/claim/cut.py" 699)]) #[])) ::
  (nat_lit 352, (kO (.type "function") (.func (FuncData.mk (Str.ofString "cut_row") (Str.ofString "cut_row") (fdP (topS 39)) (FuncBody.stmts (fdB (topS 39))) (fdS (topS 39)) 3 [] .none .none .none (kS "emacs.rows" 571) none (.ref 351) .none 0)) #[])) ::
  (nat_lit 353, (kO (.type "tuple") (.seq #[] 0) #[])) ::
  (nat_lit 355, (kO (.type "tuple") (.seq #[(kS "view" 704), (kS "table" 705), (kS "spot" 706), (kS "column" 707), (kS "width" 708), (kS "options" 709)] 0) #[])) ::
  (nat_lit 356, (kO (.type "tuple") (.seq #[] 0) #[])) ::
  (nat_lit 358, (kO (.type "code") (.fields #[(kS "laid_row" 701), (kS "laid_row" 702), (kS "/claim/cut.py" 703), (kI 230 0), (kI 6 0), (kI 0 0), (kI 0 0), (kI 3 0), (.ref 353), (.bool true), (kI 181 0), (.ref 354), .none, (.ref 355), (.ref 356), (.ref 357), (kI 710 0), (kI 230 0), (kS "/claim/cut.py" 711)]) #[])) ::
  (nat_lit 359, (kO (.type "function") (.func (FuncData.mk (Str.ofString "laid_row") (Str.ofString "laid_row") (fdP (topS 40)) (FuncBody.stmts (fdB (topS 40))) (fdS (topS 40)) 3 [] .none .none .none (kS "emacs.rows" 571) none (.ref 358) .none 0)) #[])) ::
  (nat_lit 360, (kO (.type "tuple") (.seq #[] 0) #[])) ::
  (nat_lit 362, (kO (.type "tuple") (.seq #[(kS "view" 716), (kS "table" 717), (kS "spot" 718), (kS "column" 719), (kS "height" 720), (kS "width" 721), (kS "options" 722), (kS "found" 723), (kS "row" 724)] 0) #[])) ::
  (nat_lit 363, (kO (.type "tuple") (.seq #[] 0) #[])) ::
  (nat_lit 365, (kO (.type "code") (.fields #[(kS "laid_rows" 713), (kS "laid_rows" 714), (kS "/claim/cut.py" 715), (kI 234 0), (kI 7 0), (kI 0 0), (kI 0 0), (kI 3 0), (.ref 360), (.bool true), (kI 181 0), (.ref 361), .none, (.ref 362), (.ref 363), (.ref 364), (kI 725 0), (kI 234 0), (kS "/claim/cut.py" 726)]) #[])) ::
  (nat_lit 366, (kO (.type "function") (.func (FuncData.mk (Str.ofString "laid_rows") (Str.ofString "laid_rows") (fdP (topS 41)) (FuncBody.stmts (fdB (topS 41))) (fdS (topS 41)) 3 [] .none .none .none (kS "emacs.rows" 571) none (.ref 365) .none 0)) #[])) ::
  (nat_lit 367, (kO (.type "tuple") (.seq #[] 0) #[])) ::
  (nat_lit 369, (kO (.type "tuple") (.seq #[(kS "view" 733), (kS "place" 734)] 0) #[])) ::
  (nat_lit 370, (kO (.type "tuple") (.seq #[] 0) #[])) ::
  (nat_lit 372, (kO (.type "code") (.fields #[(kS "line_begin" 730), (kS "line_begin" 731), (kS "/claim/cut.py" 732), (kI 244 0), (kI 2 0), (kI 0 0), (kI 0 0), (kI 3 0), (.ref 367), (.bool true), (kI 181 0), (.ref 368), .none, (.ref 369), (.ref 370), (.ref 371), (kI 735 0), (kI 244 0), (kS "/claim/cut.py" 736)]) #[])) ::
  (nat_lit 373, (kO (.type "function") (.func (FuncData.mk (Str.ofString "line_begin") (Str.ofString "line_begin") (fdP (topS 43)) (FuncBody.stmts (fdB (topS 43))) (fdS (topS 43)) 3 [] .none .none .none (kS "emacs.rowmotion" 728) none (.ref 372) .none 0)) #[])) ::
  (nat_lit 374, (kO (.type "tuple") (.seq #[] 0) #[])) ::
  (nat_lit 376, (kO (.type "tuple") (.seq #[(kS "view" 741), (kS "table" 742), (kS "spot" 743), (kS "width" 744), (kS "options" 745), (kS "found" 746), (kS "last" 747)] 0) #[])) ::
  (nat_lit 377, (kO (.type "tuple") (.seq #[] 0) #[])) ::
  (nat_lit 379, (kO (.type "code") (.fields #[(kS "rows_of_line" 738), (kS "rows_of_line" 739), (kS "/claim/cut.py" 740), (kI 248 0), (kI 5 0), (kI 0 0), (kI 0 0), (kI 3 0), (.ref 374), (.bool true), (kI 181 0), (.ref 375), .none, (.ref 376), (.ref 377), (.ref 378), (kI 748 0), (kI 248 0), (kS "/claim/cut.py" 749)]) #[])) ::
  (nat_lit 380, (kO (.type "function") (.func (FuncData.mk (Str.ofString "rows_of_line") (Str.ofString "rows_of_line") (fdP (topS 44)) (FuncBody.stmts (fdB (topS 44))) (fdS (topS 44)) 3 [] .none .none .none (kS "emacs.rowmotion" 728) none (.ref 379) .none 0)) #[])) ::
  (nat_lit 381, (kO (.type "tuple") (.seq #[] 0) #[])) ::
  (nat_lit 383, (kO (.type "tuple") (.seq #[(kS "view" 754), (kS "place" 755), (kS "own" 756)] 0) #[])) ::
  (nat_lit 384, (kO (.type "tuple") (.seq #[] 0) #[])) ::
  (nat_lit 386, (kO (.type "code") (.fields #[(kS "own_spot" 751), (kS "own_spot" 752), (kS "/claim/cut.py" 753), (kI 254 0), (kI 2 0), (kI 0 0), (kI 0 0), (kI 3 0), (.ref 381), (.bool true), (kI 181 0), (.ref 382), .none, (.ref 383), (.ref 384), (.ref 385), (kI 757 0), (kI 254 0), (kS "/claim/cut.py" 758)]) #[])) ::
  (nat_lit 387, (kO (.type "function") (.func (FuncData.mk (Str.ofString "own_spot") (Str.ofString "own_spot") (fdP (topS 45)) (FuncBody.stmts (fdB (topS 45))) (fdS (topS 45)) 3 [] .none .none .none (kS "emacs.rowmotion" 728) none (.ref 386) .none 0)) #[])) ::
  (nat_lit 388, (kO (.type "tuple") (.seq #[] 0) #[])) ::
  (nat_lit 390, (kO (.type "tuple") (.seq #[(kS "rows" 763), (kS "spot" 764), (kS "number" 765), (kS "row" 766)] 0) #[])) ::
  (nat_lit 391, (kO (.type "tuple") (.seq #[] 0) #[])) ::
  (nat_lit 393, (kO (.type "code") (.fields #[(kS "index_of" 760), (kS "index_of" 761), (kS "/claim/cut.py" 762), (kI 257 0), (kI 2 0), (kI 0 0), (kI 0 0), (kI 3 0), (.ref 388), (.bool true), (kI 181 0), (.ref 389), .none, (.ref 390), (.ref 391), (.ref 392), (kI 767 0), (kI 257 0), (kS "/claim/cut.py" 768)]) #[])) ::
  (nat_lit 394, (kO (.type "function") (.func (FuncData.mk (Str.ofString "index_of") (Str.ofString "index_of") (fdP (topS 46)) (FuncBody.stmts (fdB (topS 46))) (fdS (topS 46)) 3 [] .none .none .none (kS "emacs.rowmotion" 728) none (.ref 393) .none 0)) #[])) ::
  (nat_lit 395, (kO (.type "tuple") (.seq #[] 0) #[])) ::
  (nat_lit 397, (kO (.type "tuple") (.seq #[(kS "view" 773), (kS "rows" 774), (kS "place" 775)] 0) #[])) ::
  (nat_lit 398, (kO (.type "tuple") (.seq #[] 0) #[])) ::
  (nat_lit 400, (kO (.type "code") (.fields #[(kS "has_place" 770), (kS "has_place" 771), (kS "/claim/cut.py" 772), (kI 262 0), (kI 3 0), (kI 0 0), (kI 0 0), (kI 3 0), (.ref 395), (.bool true), (kI 181 0), (.ref 396), .none, (.ref 397), (.ref 398), (.ref 399), (kI 776 0), (kI 262 0), (kS "/claim/cut.py" 777)]) #[])) ::
  (nat_lit 401, (kO (.type "function") (.func (FuncData.mk (Str.ofString "has_place") (Str.ofString "has_place") (fdP (topS 47)) (FuncBody.stmts (fdB (topS 47))) (fdS (topS 47)) 3 [] .none .none .none (kS "emacs.rowmotion" 728) none (.ref 400) .none 0)) #[])) ::
  (nat_lit 402, (kO (.type "tuple") (.seq #[] 0) #[])) ::
  (nat_lit 404, (kO (.type "tuple") (.seq #[(kS "row" 782), (kS "place" 783), (kS "column" 784), (kS "glyph" 785)] 0) #[])) ::
  (nat_lit 405, (kO (.type "tuple") (.seq #[] 0) #[])) ::
  (nat_lit 407, (kO (.type "code") (.fields #[(kS "column_in" 779), (kS "column_in" 780), (kS "/claim/cut.py" 781), (kI 266 0), (kI 2 0), (kI 0 0), (kI 0 0), (kI 3 0), (.ref 402), (.bool true), (kI 181 0), (.ref 403), .none, (.ref 404), (.ref 405), (.ref 406), (kI 786 0), (kI 266 0), (kS "/claim/cut.py" 787)]) #[])) ::
  (nat_lit 408, (kO (.type "function") (.func (FuncData.mk (Str.ofString "column_in") (Str.ofString "column_in") (fdP (topS 48)) (FuncBody.stmts (fdB (topS 48))) (fdS (topS 48)) 3 [] .none .none .none (kS "emacs.rowmotion" 728) none (.ref 407) .none 0)) #[])) ::
  (nat_lit 409, (kO (.type "tuple") (.seq #[] 0) #[])) ::
  (nat_lit 411, (kO (.type "tuple") (.seq #[(kS "view" 792), (kS "rows" 793), (kS "place" 794), (kS "number" 795)] 0) #[])) ::
  (nat_lit 412, (kO (.type "tuple") (.seq #[] 0) #[])) ::
  (nat_lit 414, (kO (.type "code") (.fields #[(kS "cursor_in" 789), (kS "cursor_in" 790), (kS "/claim/cut.py" 791), (kI 271 0), (kI 3 0), (kI 0 0), (kI 0 0), (kI 3 0), (.ref 409), (.bool true), (kI 181 0), (.ref 410), .none, (.ref 411), (.ref 412), (.ref 413), (kI 796 0), (kI 271 0), (kS "/claim/cut.py" 797)]) #[])) ::
  (nat_lit 415, (kO (.type "function") (.func (FuncData.mk (Str.ofString "cursor_in") (Str.ofString "cursor_in") (fdP (topS 49)) (FuncBody.stmts (fdB (topS 49))) (fdS (topS 49)) 3 [] .none .none .none (kS "emacs.rowmotion" 728) none (.ref 414) .none 0)) #[])) ::
  (nat_lit 416, (kO (.type "tuple") (.seq #[] 0) #[])) ::
  (nat_lit 418, (kO (.type "tuple") (.seq #[(kS "view" 802), (kS "table" 803), (kS "place" 804), (kS "width" 805), (kS "options" 806), (kS "rows" 807), (kS "row" 808)] 0) #[])) ::
  (nat_lit 419, (kO (.type "tuple") (.seq #[] 0) #[])) ::
  (nat_lit 421, (kO (.type "code") (.fields #[(kS "window_begin" 799), (kS "window_begin" 800), (kS "/claim/cut.py" 801), (kI 276 0), (kI 5 0), (kI 0 0), (kI 0 0), (kI 3 0), (.ref 416), (.bool true), (kI 181 0), (.ref 417), .none, (.ref 418), (.ref 419), (.ref 420), (kI 809 0), (kI 276 0), (kS "/claim/cut.py" 810)]) #[])) ::
  (nat_lit 422, (kO (.type "function") (.func (FuncData.mk (Str.ofString "window_begin") (Str.ofString "window_begin") (fdP (topS 50)) (FuncBody.stmts (fdB (topS 50))) (fdS (topS 50)) 3 [] .none .none .none (kS "emacs.rowmotion" 728) none (.ref 421) .none 0)) #[])) ::
  (nat_lit 423, (kO (.type "tuple") (.seq #[] 0) #[])) ::
  (nat_lit 425, (kO (.type "tuple") (.seq #[(kS "view" 815), (kS "table" 816), (kS "rows" 817), (kS "number" 818), (kS "width" 819), (kS "options" 820), (kS "begin" 821), (kS "ahead" 822)] 0) #[])) ::
  (nat_lit 426, (kO (.type "tuple") (.seq #[] 0) #[])) ::
  (nat_lit 428, (kO (.type "code") (.fields #[(kS "row_ahead" 812), (kS "row_ahead" 813), (kS "/claim/cut.py" 814), (kI 280 0), (kI 6 0), (kI 0 0), (kI 0 0), (kI 3 0), (.ref 423), (.bool true), (kI 181 0), (.ref 424), .none, (.ref 425), (.ref 426), (.ref 427), (kI 823 0), (kI 280 0), (kS "/claim/cut.py" 824)]) #[])) ::
  (nat_lit 429, (kO (.type "function") (.func (FuncData.mk (Str.ofString "row_ahead") (Str.ofString "row_ahead") (fdP (topS 51)) (FuncBody.stmts (fdB (topS 51))) (fdS (topS 51)) 3 [] .none .none .none (kS "emacs.rowmotion" 728) none (.ref 428) .none 0)) #[])) ::
  (nat_lit 430, (kO (.type "tuple") (.seq #[] 0) #[])) ::
  (nat_lit 432, (kO (.type "tuple") (.seq #[(kS "view" 829), (kS "table" 830), (kS "rows" 831), (kS "number" 832), (kS "width" 833), (kS "options" 834)] 0) #[])) ::
  (nat_lit 433, (kO (.type "tuple") (.seq #[] 0) #[])) ::
  (nat_lit 435, (kO (.type "code") (.fields #[(kS "row_behind" 826), (kS "row_behind" 827), (kS "/claim/cut.py" 828), (kI 288 0), (kI 6 0), (kI 0 0), (kI 0 0), (kI 3 0), (.ref 430), (.bool true), (kI 181 0), (.ref 431), .none, (.ref 432), (.ref 433), (.ref 434), (kI 835 0), (kI 288 0), (kS "/claim/cut.py" 836)]) #[])) ::
  (nat_lit 436, (kO (.type "function") (.func (FuncData.mk (Str.ofString "row_behind") (Str.ofString "row_behind") (fdP (topS 52)) (FuncBody.stmts (fdB (topS 52))) (fdS (topS 52)) 3 [] .none .none .none (kS "emacs.rowmotion" 728) none (.ref 435) .none 0)) #[])) ::
  (nat_lit 437, (kO (.type "tuple") (.seq #[] 0) #[])) ::
  (nat_lit 439, (kO (.type "tuple") (.seq #[(kS "view" 841), (kS "table" 842), (kS "place" 843), (kS "count" 844), (kS "width" 845), (kS "options" 846), (kS "rows" 847), (kS "number" 848), (kS "gone" 849), (kS "step" 850), (kS "found" 851)] 0) #[])) ::
  (nat_lit 440, (kO (.type "tuple") (.seq #[] 0) #[])) ::
  (nat_lit 442, (kO (.type "code") (.fields #[(kS "vertical_motion" 838), (kS "vertical_motion" 839), (kS "/claim/cut.py" 840), (kI 294 0), (kI 6 0), (kI 0 0), (kI 0 0), (kI 3 0), (.ref 437), (.bool true), (kI 181 0), (.ref 438), .none, (.ref 439), (.ref 440), (.ref 441), (kI 852 0), (kI 294 0), (kS "/claim/cut.py" 853)]) #[])) ::
  (nat_lit 443, (kO (.type "function") (.func (FuncData.mk (Str.ofString "vertical_motion") (Str.ofString "vertical_motion") (fdP (topS 53)) (FuncBody.stmts (fdB (topS 53))) (fdS (topS 53)) 3 [] .none .none .none (kS "emacs.rowmotion" 728) none (.ref 442) .none 0)) #[])) ::
  (nat_lit 451, (kO (.type "tuple") (.seq #[(kI 0 869), (kI 0 870)] 0) #[])) ::
  (nat_lit 452, (kO (.type "tuple") (.seq #[] 0) #[])) ::
  (nat_lit 454, (kO (.type "tuple") (.seq #[(kS "self" 874), (kS "margin" 875), (kS "few" 876)] 0) #[])) ::
  (nat_lit 455, (kO (.type "tuple") (.seq #[] 0) #[])) ::
  (nat_lit 457, (kO (.type "code") (.fields #[(kS "__init__" 871), (kS "Rules.__init__" 872), (kS "/claim/cut.py" 873), (kI 308 0), (kI 3 0), (kI 0 0), (kI 0 0), (kI 3 0), (.ref 452), (.bool true), (kI 181 0), (.ref 453), .none, (.ref 454), (.ref 455), (.ref 456), (kI 877 0), (kI 308 0), (kS "/claim/cut.py" 878)]) #[])) ::
  (nat_lit 458, (kO (.type "function") (.func (FuncData.mk (Str.ofString "__init__") (Str.ofString "Rules.__init__") (fdP (methS 55 0)) (FuncBody.stmts (fdB (methS 55 0))) (fdS (methS 55 0)) 3 [] (.ref 451) .none .none (kS "emacs.scrolling" 855) none (.ref 457) .none 0)) #[])) ::
  (nat_lit 459, (kO (.type "tuple") (.seq #[(kS "few" 880), (kS "margin" 881)] 0) #[])) ::
  (nat_lit 460, (kO (.type "dict") (.dict #[(kE P "__module__" 864 (kS "emacs.scrolling" 855)), (kE P "__firstlineno__" 868 (kI 306 867)), (kE P "__init__" 879 (.ref 458)), (kE P "__static_attributes__" 882 (.ref 459)), (kE P "__dict__" 884 (.ref 462)), (kE P "__weakref__" 886 (.ref 463)), (kE P "__doc__" 887 .none)] 4) #[])) ::
  (nat_lit 461, (kO (.type "type") (.cls (ClassData.mk (Str.ofString "Rules") [(.type "object")] [(.ref 461), (.type "object")] 460 (Str.ofString "Rules") true [] [] false none false)) #[none, none, (some (kS "Rules" 857)), (some (kS "Rules" 865)), (some (.builtin "object.__new__")), (some (.bool true))])) ::
  (nat_lit 462, (kO (.type "getset_descriptor") (.fields #[(kS "__dict__" 883), (.ref 461), (.builtin "function.__dict__"), (.builtin "function.__dict__#set")]) #[])) ::
  (nat_lit 463, (kO (.type "getset_descriptor") (.fields #[(kS "__weakref__" 885), (.ref 461), (.builtin "ExceptionGroup.__weakref__"), .none]) #[])) ::
  (nat_lit 473, (kO (.type "tuple") (.seq #[] 0) #[])) ::
  (nat_lit 475, (kO (.type "tuple") (.seq #[(kS "self" 905), (kS "view" 906), (kS "table" 907), (kS "height" 908), (kS "width" 909), (kS "options" 910), (kS "rules" 911)] 0) #[])) ::
  (nat_lit 476, (kO (.type "tuple") (.seq #[] 0) #[])) ::
  (nat_lit 478, (kO (.type "code") (.fields #[(kS "__init__" 902), (kS "Pane.__init__" 903), (kS "/claim/cut.py" 904), (kI 313 0), (kI 7 0), (kI 0 0), (kI 0 0), (kI 3 0), (.ref 473), (.bool true), (kI 181 0), (.ref 474), .none, (.ref 475), (.ref 476), (.ref 477), (kI 912 0), (kI 313 0), (kS "/claim/cut.py" 913)]) #[])) ::
  (nat_lit 479, (kO (.type "function") (.func (FuncData.mk (Str.ofString "__init__") (Str.ofString "Pane.__init__") (fdP (methS 56 0)) (FuncBody.stmts (fdB (methS 56 0))) (fdS (methS 56 0)) 3 [] .none .none .none (kS "emacs.scrolling" 855) none (.ref 478) .none 0)) #[])) ::
  (nat_lit 480, (kO (.type "tuple") (.seq #[] 0) #[])) ::
  (nat_lit 482, (kO (.type "tuple") (.seq #[(kS "self" 918), (kS "start" 919), (kS "spot" 920), (kS "column" 921)] 0) #[])) ::
  (nat_lit 483, (kO (.type "tuple") (.seq #[] 0) #[])) ::
  (nat_lit 485, (kO (.type "code") (.fields #[(kS "rows_from" 915), (kS "Pane.rows_from" 916), (kS "/claim/cut.py" 917), (kI 321 0), (kI 2 0), (kI 0 0), (kI 0 0), (kI 3 0), (.ref 480), (.bool true), (kI 181 0), (.ref 481), .none, (.ref 482), (.ref 483), (.ref 484), (kI 922 0), (kI 321 0), (kS "/claim/cut.py" 923)]) #[])) ::
  (nat_lit 486, (kO (.type "function") (.func (FuncData.mk (Str.ofString "rows_from") (Str.ofString "Pane.rows_from") (fdP (methS 56 1)) (FuncBody.stmts (fdB (methS 56 1))) (fdS (methS 56 1)) 3 [] .none .none .none (kS "emacs.scrolling" 855) none (.ref 485) .none 0)) #[])) ::
  (nat_lit 487, (kO (.type "tuple") (.seq #[] 0) #[])) ::
  (nat_lit 489, (kO (.type "tuple") (.seq #[(kS "self" 928), (kS "place" 929), (kS "count" 930)] 0) #[])) ::
  (nat_lit 490, (kO (.type "tuple") (.seq #[] 0) #[])) ::
  (nat_lit 492, (kO (.type "code") (.fields #[(kS "moved" 925), (kS "Pane.moved" 926), (kS "/claim/cut.py" 927), (kI 325 0), (kI 3 0), (kI 0 0), (kI 0 0), (kI 3 0), (.ref 487), (.bool true), (kI 181 0), (.ref 488), .none, (.ref 489), (.ref 490), (.ref 491), (kI 931 0), (kI 325 0), (kS "/claim/cut.py" 932)]) #[])) ::
  (nat_lit 493, (kO (.type "function") (.func (FuncData.mk (Str.ofString "moved") (Str.ofString "Pane.moved") (fdP (methS 56 2)) (FuncBody.stmts (fdB (methS 56 2))) (fdS (methS 56 2)) 3 [] .none .none .none (kS "emacs.scrolling" 855) none (.ref 492) .none 0)) #[])) ::
  (nat_lit 494, (kO (.type "tuple") (.seq #[(kS "height" 934), (kS "options" 935), (kS "rules" 936), (kS "table" 937), (kS "view" 938), (kS "width" 939)] 0) #[])) ::
  (nat_lit 495, (kO (.type "dict") (.dict #[(kE P "__module__" 897 (kS "emacs.scrolling" 855)), (kE P "__firstlineno__" 901 (kI 311 900)), (kE P "__init__" 914 (.ref 479)), (kE P "rows_from" 924 (.ref 486)), (kE P "moved" 933 (.ref 493)), (kE P "__static_attributes__" 940 (.ref 494)), (kE P "__dict__" 942 (.ref 497)), (kE P "__weakref__" 944 (.ref 498)), (kE P "__doc__" 945 .none)] 4) #[])) ::
  (nat_lit 496, (kO (.type "type") (.cls (ClassData.mk (Str.ofString "Pane") [(.type "object")] [(.ref 496), (.type "object")] 495 (Str.ofString "Pane") true [] [] false none false)) #[none, none, (some (kS "Pane" 890)), (some (kS "Pane" 898)), (some (.builtin "object.__new__")), (some (.bool true))])) ::
  (nat_lit 497, (kO (.type "getset_descriptor") (.fields #[(kS "__dict__" 941), (.ref 496), (.builtin "function.__dict__"), (.builtin "function.__dict__#set")]) #[])) ::
  (nat_lit 498, (kO (.type "getset_descriptor") (.fields #[(kS "__weakref__" 943), (.ref 496), (.builtin "ExceptionGroup.__weakref__"), .none]) #[])) ::
  (nat_lit 501, (kO (.type "tuple") (.seq #[] 0) #[])) ::
  (nat_lit 503, (kO (.type "tuple") (.seq #[(kS "pane" 951), (kS "point" 952), (kS "line" 953)] 0) #[])) ::
  (nat_lit 504, (kO (.type "tuple") (.seq #[] 0) #[])) ::
  (nat_lit 506, (kO (.type "code") (.fields #[(kS "recentered" 948), (kS "recentered" 949), (kS "/claim/cut.py" 950), (kI 327 0), (kI 3 0), (kI 0 0), (kI 0 0), (kI 3 0), (.ref 501), (.bool true), (kI 181 0), (.ref 502), .none, (.ref 503), (.ref 504), (.ref 505), (kI 954 0), (kI 327 0), (kS "/claim/cut.py" 955)]) #[])) ::
  (nat_lit 507, (kO (.type "function") (.func (FuncData.mk (Str.ofString "recentered") (Str.ofString "recentered") (fdP (topS 57)) (FuncBody.stmts (fdB (topS 57))) (fdS (topS 57)) 3 [] .none .none .none (kS "emacs.scrolling" 855) none (.ref 506) .none 0)) #[])) ::
  (nat_lit 508, (kO (.type "tuple") (.seq #[] 0) #[])) ::
  (nat_lit 510, (kO (.type "tuple") (.seq #[(kS "pane" 960), (kS "start" 961), (kS "point" 962), (kS "count" 963), (kS "begin" 964), (kS "rows" 965)] 0) #[])) ::
  (nat_lit 511, (kO (.type "tuple") (.seq #[] 0) #[])) ::
  (nat_lit 513, (kO (.type "code") (.fields #[(kS "scrolled" 957), (kS "scrolled" 958), (kS "/claim/cut.py" 959), (kI 329 0), (kI 4 0), (kI 0 0), (kI 0 0), (kI 3 0), (.ref 508), (.bool true), (kI 181 0), (.ref 509), .none, (.ref 510), (.ref 511), (.ref 512), (kI 966 0), (kI 329 0), (kS "/claim/cut.py" 967)]) #[])) ::
  (nat_lit 514, (kO (.type "function") (.func (FuncData.mk (Str.ofString "scrolled") (Str.ofString "scrolled") (fdP (topS 58)) (FuncBody.stmts (fdB (topS 58))) (fdS (topS 58)) 3 [] .none .none .none (kS "emacs.scrolling" 855) none (.ref 513) .none 0)) #[])) ::
  (nat_lit 515, (kO (.type "tuple") (.seq #[] 0) #[])) ::
  (nat_lit 517, (kO (.type "tuple") (.seq #[(kS "pane" 974), (kS "kept" 975)] 0) #[])) ::
  (nat_lit 518, (kO (.type "tuple") (.seq #[] 0) #[])) ::
  (nat_lit 520, (kO (.type "code") (.fields #[(kS "screen_rows" 971), (kS "screen_rows" 972), (kS "/claim/cut.py" 973), (kI 338 0), (kI 2 0), (kI 0 0), (kI 0 0), (kI 3 0), (.ref 515), (.bool true), (kI 181 0), (.ref 516), .none, (.ref 517), (.ref 518), (.ref 519), (kI 976 0), (kI 338 0), (kS "/claim/cut.py" 977)]) #[])) ::
  (nat_lit 521, (kO (.type "function") (.func (FuncData.mk (Str.ofString "screen_rows") (Str.ofString "screen_rows") (fdP (topS 60)) (FuncBody.stmts (fdB (topS 60))) (fdS (topS 60)) 3 [] .none .none .none (kS "emacs.windowscroll" 969) none (.ref 520) .none 0)) #[])) ::
  (nat_lit 522, (kO (.type "tuple") (.seq #[(kI 2 979)] 0) #[])) ::
  (nat_lit 523, (kO (.type "tuple") (.seq #[] 0) #[])) ::
  (nat_lit 525, (kO (.type "tuple") (.seq #[(kS "pane" 983), (kS "start" 984), (kS "point" 985), (kS "count" 986), (kS "kept" 987), (kS "rows" 988), (kS "much" 989)] 0) #[])) ::
  (nat_lit 526, (kO (.type "tuple") (.seq #[] 0) #[])) ::
  (nat_lit 528, (kO (.type "code") (.fields #[(kS "scroll_up" 980), (kS "scroll_up" 981), (kS "/claim/cut.py" 982), (kI 340 0), (kI 5 0), (kI 0 0), (kI 0 0), (kI 3 0), (.ref 523), (.bool true), (kI 181 0), (.ref 524), .none, (.ref 525), (.ref 526), (.ref 527), (kI 990 0), (kI 340 0), (kS "/claim/cut.py" 991)]) #[])) ::
  (nat_lit 529, (kO (.type "function") (.func (FuncData.mk (Str.ofString "scroll_up") (Str.ofString "scroll_up") (fdP (topS 61)) (FuncBody.stmts (fdB (topS 61))) (fdS (topS 61)) 3 [] (.ref 522) .none .none (kS "emacs.windowscroll" 969) none (.ref 528) .none 0)) #[])) ::
  (nat_lit 530, (kO (.type "tuple") (.seq #[(kI 2 993)] 0) #[])) ::
  (nat_lit 531, (kO (.type "tuple") (.seq #[] 0) #[])) ::
  (nat_lit 533, (kO (.type "tuple") (.seq #[(kS "pane" 997), (kS "start" 998), (kS "point" 999), (kS "count" 1000), (kS "kept" 1001), (kS "much" 1002)] 0) #[])) ::
  (nat_lit 534, (kO (.type "tuple") (.seq #[] 0) #[])) ::
  (nat_lit 536, (kO (.type "code") (.fields #[(kS "scroll_down" 994), (kS "scroll_down" 995), (kS "/claim/cut.py" 996), (kI 348 0), (kI 5 0), (kI 0 0), (kI 0 0), (kI 3 0), (.ref 531), (.bool true), (kI 181 0), (.ref 532), .none, (.ref 533), (.ref 534), (.ref 535), (kI 1003 0), (kI 348 0), (kS "/claim/cut.py" 1004)]) #[])) ::
  (nat_lit 537, (kO (.type "function") (.func (FuncData.mk (Str.ofString "scroll_down") (Str.ofString "scroll_down") (fdP (topS 62)) (FuncBody.stmts (fdB (topS 62))) (fdS (topS 62)) 3 [] (.ref 530) .none .none (kS "emacs.windowscroll" 969) none (.ref 536) .none 0)) #[])) ::
  (nat_lit 538, (kO (.type "tuple") (.seq #[] 0) #[])) ::
  (nat_lit 540, (kO (.type "tuple") (.seq #[(kS "pane" 1009), (kS "point" 1010), (kS "line" 1011)] 0) #[])) ::
  (nat_lit 541, (kO (.type "tuple") (.seq #[] 0) #[])) ::
  (nat_lit 543, (kO (.type "code") (.fields #[(kS "recenter" 1006), (kS "recenter" 1007), (kS "/claim/cut.py" 1008), (kI 355 0), (kI 3 0), (kI 0 0), (kI 0 0), (kI 3 0), (.ref 538), (.bool true), (kI 181 0), (.ref 539), .none, (.ref 540), (.ref 541), (.ref 542), (kI 1012 0), (kI 355 0), (kS "/claim/cut.py" 1013)]) #[])) ::
  (nat_lit 544, (kO (.type "function") (.func (FuncData.mk (Str.ofString "recenter") (Str.ofString "recenter") (fdP (topS 63)) (FuncBody.stmts (fdB (topS 63))) (fdS (topS 63)) 3 [] .none .none .none (kS "emacs.windowscroll" 969) none (.ref 543) .none 0)) #[])) ::
  (nat_lit 552, (kO (.type "tuple") (.seq #[(kI 0 1028)] 0) #[])) ::
  (nat_lit 553, (kO (.type "tuple") (.seq #[] 0) #[])) ::
  (nat_lit 555, (kO (.type "tuple") (.seq #[(kS "self" 1032), (kS "margin" 1033)] 0) #[])) ::
  (nat_lit 556, (kO (.type "tuple") (.seq #[] 0) #[])) ::
  (nat_lit 558, (kO (.type "code") (.fields #[(kS "__init__" 1029), (kS "Turns.__init__" 1030), (kS "/claim/cut.py" 1031), (kI 364 0), (kI 2 0), (kI 0 0), (kI 0 0), (kI 3 0), (.ref 553), (.bool true), (kI 181 0), (.ref 554), .none, (.ref 555), (.ref 556), (.ref 557), (kI 1034 0), (kI 364 0), (kS "/claim/cut.py" 1035)]) #[])) ::
  (nat_lit 559, (kO (.type "function") (.func (FuncData.mk (Str.ofString "__init__") (Str.ofString "Turns.__init__") (fdP (methS 65 0)) (FuncBody.stmts (fdB (methS 65 0))) (fdS (methS 65 0)) 3 [] (.ref 552) .none .none (kS "emacs.windowscroll" 969) none (.ref 558) .none 0)) #[])) ::
  (nat_lit 560, (kO (.type "tuple") (.seq #[] 0) #[])) ::
  (nat_lit 562, (kO (.type "tuple") (.seq #[(kS "self" 1040)] 0) #[])) ::
  (nat_lit 563, (kO (.type "tuple") (.seq #[] 0) #[])) ::
  (nat_lit 565, (kO (.type "code") (.fields #[(kS "begin" 1037), (kS "Turns.begin" 1038), (kS "/claim/cut.py" 1039), (kI 368 0), (kI 1 0), (kI 0 0), (kI 0 0), (kI 3 0), (.ref 560), (.bool true), (kI 181 0), (.ref 561), .none, (.ref 562), (.ref 563), (.ref 564), (kI 1041 0), (kI 368 0), (kS "/claim/cut.py" 1042)]) #[])) ::
  (nat_lit 566, (kO (.type "function") (.func (FuncData.mk (Str.ofString "begin") (Str.ofString "Turns.begin") (fdP (methS 65 1)) (FuncBody.stmts (fdB (methS 65 1))) (fdS (methS 65 1)) 3 [] .none .none .none (kS "emacs.windowscroll" 969) none (.ref 565) .none 0)) #[])) ::
  (nat_lit 567, (kO (.type "tuple") (.seq #[] 0) #[])) ::
  (nat_lit 569, (kO (.type "tuple") (.seq #[(kS "self" 1047), (kS "pane" 1048), (kS "point" 1049), (kS "line" 1050)] 0) #[])) ::
  (nat_lit 570, (kO (.type "tuple") (.seq #[] 0) #[])) ::
  (nat_lit 572, (kO (.type "code") (.fields #[(kS "recenter" 1044), (kS "Turns.recenter" 1045), (kS "/claim/cut.py" 1046), (kI 371 0), (kI 3 0), (kI 0 0), (kI 0 0), (kI 3 0), (.ref 567), (.bool true), (kI 181 0), (.ref 568), .none, (.ref 569), (.ref 570), (.ref 571), (kI 1051 0), (kI 371 0), (kS "/claim/cut.py" 1052)]) #[])) ::
  (nat_lit 573, (kO (.type "function") (.func (FuncData.mk (Str.ofString "recenter") (Str.ofString "Turns.recenter") (fdP (methS 65 2)) (FuncBody.stmts (fdB (methS 65 2))) (fdS (methS 65 2)) 3 [] .none .none .none (kS "emacs.windowscroll" 969) none (.ref 572) .none 0)) #[])) ::
  (nat_lit 574, (kO (.type "tuple") (.seq #[(kS "margin" 1054), (kS "turn" 1055)] 0) #[])) ::
  (nat_lit 575, (kO (.type "dict") (.dict #[(kE P "__module__" 1023 (kS "emacs.windowscroll" 969)), (kE P "__firstlineno__" 1027 (kI 362 1026)), (kE P "__init__" 1036 (.ref 559)), (kE P "begin" 1043 (.ref 566)), (kE P "recenter" 1053 (.ref 573)), (kE P "__static_attributes__" 1056 (.ref 574)), (kE P "__dict__" 1058 (.ref 577)), (kE P "__weakref__" 1060 (.ref 578)), (kE P "__doc__" 1061 .none)] 4) #[])) ::
  (nat_lit 576, (kO (.type "type") (.cls (ClassData.mk (Str.ofString "Turns") [(.type "object")] [(.ref 576), (.type "object")] 575 (Str.ofString "Turns") true [] [] false none false)) #[none, none, (some (kS "Turns" 1016)), (some (kS "Turns" 1024)), (some (.builtin "object.__new__")), (some (.bool true))])) ::
  (nat_lit 577, (kO (.type "getset_descriptor") (.fields #[(kS "__dict__" 1057), (.ref 576), (.builtin "function.__dict__"), (.builtin "function.__dict__#set")]) #[])) ::
  (nat_lit 578, (kO (.type "getset_descriptor") (.fields #[(kS "__weakref__" 1059), (.ref 576), (.builtin "ExceptionGroup.__weakref__"), .none]) #[])) ::
  (nat_lit 581, (kO (.type "tuple") (.seq #[] 0) #[])) ::
  (nat_lit 583, (kO (.type "tuple") (.seq #[(kS "pane" 1067), (kS "start" 1068), (kS "line" 1069), (kS "rows" 1070), (kS "at" 1071)] 0) #[])) ::
  (nat_lit 584, (kO (.type "tuple") (.seq #[] 0) #[])) ::
  (nat_lit 586, (kO (.type "code") (.fields #[(kS "line_to_point" 1064), (kS "line_to_point" 1065), (kS "/claim/cut.py" 1066), (kI 375 0), (kI 3 0), (kI 0 0), (kI 0 0), (kI 3 0), (.ref 581), (.bool true), (kI 181 0), (.ref 582), .none, (.ref 583), (.ref 584), (.ref 585), (kI 1072 0), (kI 375 0), (kS "/claim/cut.py" 1073)]) #[])) ::
  (nat_lit 587, (kO (.type "function") (.func (FuncData.mk (Str.ofString "line_to_point") (Str.ofString "line_to_point") (fdP (topS 66)) (FuncBody.stmts (fdB (topS 66))) (fdS (topS 66)) 3 [] .none .none .none (kS "emacs.windowscroll" 969) none (.ref 586) .none 0)) #[])) ::
  (nat_lit 588, (kO (.type "tuple") (.seq #[(kI 0 1079), (kI 0 1080), (kI 0 1081), (kI 0 1082), (kI 0 1083), (kI 0 1084)] 0) #[])) ::
  (nat_lit 589, (kO (.type "tuple") (.seq #[.none, .none, .none, .none, .none, .none] 0) #[])) ::
  (nat_lit 597, (kO (.type "tuple") (.seq #[] 0) #[])) ::
  (nat_lit 598, (kO (.type "tuple") (.seq #[(.ref 597)] 0) #[])) ::
  (nat_lit 599, (kO (.type "tuple") (.seq #[] 0) #[])) ::
  (nat_lit 601, (kO (.type "tuple") (.seq #[(kS "self" 1102), (kS "parts" 1103), (kS "parents" 1104)] 0) #[])) ::
  (nat_lit 602, (kO (.type "tuple") (.seq #[] 0) #[])) ::
  (nat_lit 604, (kO (.type "code") (.fields #[(kS "__init__" 1099), (kS "Face.__init__" 1100), (kS "/claim/cut.py" 1101), (kI 387 0), (kI 3 0), (kI 0 0), (kI 0 0), (kI 3 0), (.ref 599), (.bool true), (kI 181 0), (.ref 600), .none, (.ref 601), (.ref 602), (.ref 603), (kI 1105 0), (kI 387 0), (kS "/claim/cut.py" 1106)]) #[])) ::
  (nat_lit 605, (kO (.type "function") (.func (FuncData.mk (Str.ofString "__init__") (Str.ofString "Face.__init__") (fdP (methS 71 0)) (FuncBody.stmts (fdB (methS 71 0))) (fdS (methS 71 0)) 3 [] (.ref 598) .none .none (kS "emacs.faces" 1075) none (.ref 604) .none 0)) #[])) ::
  (nat_lit 606, (kO (.type "tuple") (.seq #[(kS "parents" 1108), (kS "parts" 1109)] 0) #[])) ::
  (nat_lit 607, (kO (.type "dict") (.dict #[(kE P "__module__" 1094 (kS "emacs.faces" 1075)), (kE P "__firstlineno__" 1098 (kI 385 1097)), (kE P "__init__" 1107 (.ref 605)), (kE P "__static_attributes__" 1110 (.ref 606)), (kE P "__dict__" 1112 (.ref 609)), (kE P "__weakref__" 1114 (.ref 610)), (kE P "__doc__" 1115 .none)] 4) #[])) ::
  (nat_lit 608, (kO (.type "type") (.cls (ClassData.mk (Str.ofString "Face") [(.type "object")] [(.ref 608), (.type "object")] 607 (Str.ofString "Face") true [] [] false none false)) #[none, none, (some (kS "Face" 1087)), (some (kS "Face" 1095)), (some (.builtin "object.__new__")), (some (.bool true))])) ::
  (nat_lit 609, (kO (.type "getset_descriptor") (.fields #[(kS "__dict__" 1111), (.ref 608), (.builtin "function.__dict__"), (.builtin "function.__dict__#set")]) #[])) ::
  (nat_lit 610, (kO (.type "getset_descriptor") (.fields #[(kS "__weakref__" 1113), (.ref 608), (.builtin "ExceptionGroup.__weakref__"), .none]) #[])) ::
  (nat_lit 620, (kO (.type "tuple") (.seq #[] 0) #[])) ::
  (nat_lit 622, (kO (.type "tuple") (.seq #[(kS "self" 1133)] 0) #[])) ::
  (nat_lit 623, (kO (.type "tuple") (.seq #[] 0) #[])) ::
  (nat_lit 625, (kO (.type "code") (.fields #[(kS "__init__" 1130), (kS "FaceTable.__init__" 1131), (kS "/claim/cut.py" 1132), (kI 392 0), (kI 1 0), (kI 0 0), (kI 0 0), (kI 3 0), (.ref 620), (.bool true), (kI 181 0), (.ref 621), .none, (.ref 622), (.ref 623), (.ref 624), (kI 1134 0), (kI 392 0), (kS "/claim/cut.py" 1135)]) #[])) ::
  (nat_lit 626, (kO (.type "function") (.func (FuncData.mk (Str.ofString "__init__") (Str.ofString "FaceTable.__init__") (fdP (methS 72 0)) (FuncBody.stmts (fdB (methS 72 0))) (fdS (methS 72 0)) 3 [] .none .none .none (kS "emacs.faces" 1075) none (.ref 625) .none 0)) #[])) ::
  (nat_lit 627, (kO (.type "tuple") (.seq #[] 0) #[])) ::
  (nat_lit 629, (kO (.type "tuple") (.seq #[(kS "self" 1140), (kS "name" 1141), (kS "face" 1142)] 0) #[])) ::
  (nat_lit 630, (kO (.type "tuple") (.seq #[] 0) #[])) ::
  (nat_lit 632, (kO (.type "code") (.fields #[(kS "define" 1137), (kS "FaceTable.define" 1138), (kS "/claim/cut.py" 1139), (kI 397 0), (kI 3 0), (kI 0 0), (kI 0 0), (kI 3 0), (.ref 627), (.bool true), (kI 181 0), (.ref 628), .none, (.ref 629), (.ref 630), (.ref 631), (kI 1143 0), (kI 397 0), (kS "/claim/cut.py" 1144)]) #[])) ::
  (nat_lit 633, (kO (.type "function") (.func (FuncData.mk (Str.ofString "define") (Str.ofString "FaceTable.define") (fdP (methS 72 1)) (FuncBody.stmts (fdB (methS 72 1))) (fdS (methS 72 1)) 3 [] .none .none .none (kS "emacs.faces" 1075) none (.ref 632) .none 0)) #[])) ::
  (nat_lit 634, (kO (.type "tuple") (.seq #[] 0) #[])) ::
  (nat_lit 637, (kO (.type "code") (.fields #[(kS "merged" 1146), (kS "FaceTable.merged" 1147), (kS "/claim/cut.py" 1148), (kI 400 0), (kI 2 0), (kI 0 0), (kI 0 0), (kI 3 0), (.ref 634), (.bool true), (kI 181 0), (.ref 635), .none, .none, .none, (.ref 636), (kI 1149 0), (kI 400 0), (kS "/claim/cut.py" 1150)]) #[])) ::
  (nat_lit 638, (kO (.type "function") (.func (FuncData.mk (Str.ofString "merged") (Str.ofString "FaceTable.merged") (fdP (methS 72 2)) (FuncBody.stmts (fdB (methS 72 2))) (fdS (methS 72 2)) 3 [] .none .none .none (kS "emacs.faces" 1075) none (.ref 637) .none 0)) #[])) ::
  (nat_lit 639, (kO (.type "tuple") (.seq #[] 0) #[])) ::
  (nat_lit 641, (kO (.type "tuple") (.seq #[(kS "self" 1155), (kS "names" 1156), (kS "look" 1157)] 0) #[])) ::
  (nat_lit 642, (kO (.type "tuple") (.seq #[] 0) #[])) ::
  (nat_lit 644, (kO (.type "code") (.fields #[(kS "number_of" 1152), (kS "FaceTable.number_of" 1153), (kS "/claim/cut.py" 1154), (kI 411 0), (kI 2 0), (kI 0 0), (kI 0 0), (kI 3 0), (.ref 639), (.bool true), (kI 181 0), (.ref 640), .none, (.ref 641), (.ref 642), (.ref 643), (kI 1158 0), (kI 411 0), (kS "/claim/cut.py" 1159)]) #[])) ::
  (nat_lit 645, (kO (.type "function") (.func (FuncData.mk (Str.ofString "number_of") (Str.ofString "FaceTable.number_of") (fdP (methS 72 3)) (FuncBody.stmts (fdB (methS 72 3))) (fdS (methS 72 3)) 3 [] .none .none .none (kS "emacs.faces" 1075) none (.ref 644) .none 0)) #[])) ::
  (nat_lit 646, (kO (.type "tuple") (.seq #[] 0) #[])) ::
  (nat_lit 648, (kO (.type "tuple") (.seq #[(kS "self" 1164), (kS "number" 1165)] 0) #[])) ::
  (nat_lit 649, (kO (.type "tuple") (.seq #[] 0) #[])) ::
  (nat_lit 651, (kO (.type "code") (.fields #[(kS "look_of" 1161), (kS "FaceTable.look_of" 1162), (kS "/claim/cut.py" 1163), (kI 420 0), (kI 2 0), (kI 0 0), (kI 0 0), (kI 3 0), (.ref 646), (.bool true), (kI 181 0), (.ref 647), .none, (.ref 648), (.ref 649), (.ref 650), (kI 1166 0), (kI 420 0), (kS "/claim/cut.py" 1167)]) #[])) ::
  (nat_lit 652, (kO (.type "function") (.func (FuncData.mk (Str.ofString "look_of") (Str.ofString "FaceTable.look_of") (fdP (methS 72 4)) (FuncBody.stmts (fdB (methS 72 4))) (fdS (methS 72 4)) 3 [] .none .none .none (kS "emacs.faces" 1075) none (.ref 651) .none 0)) #[])) ::
  (nat_lit 653, (kO (.type "tuple") (.seq #[(kS "by_name" 1169), (kS "looks" 1170), (kS "numbers" 1171)] 0) #[])) ::
  (nat_lit 654, (kO (.type "dict") (.dict #[(kE P "__module__" 1125 (kS "emacs.faces" 1075)), (kE P "__firstlineno__" 1129 (kI 390 1128)), (kE P "__init__" 1136 (.ref 626)), (kE P "define" 1145 (.ref 633)), (kE P "merged" 1151 (.ref 638)), (kE P "number_of" 1160 (.ref 645)), (kE P "look_of" 1168 (.ref 652)), (kE P "__static_attributes__" 1172 (.ref 653)), (kE P "__dict__" 1174 (.ref 656)), (kE P "__weakref__" 1176 (.ref 657)), (kE P "__doc__" 1177 .none)] 4) #[])) ::
  (nat_lit 655, (kO (.type "type") (.cls (ClassData.mk (Str.ofString "FaceTable") [(.type "object")] [(.ref 655), (.type "object")] 654 (Str.ofString "FaceTable") true [] [] false none false)) #[none, none, (some (kS "FaceTable" 1118)), (some (kS "FaceTable" 1126)), (some (.builtin "object.__new__")), (some (.bool true))])) ::
  (nat_lit 656, (kO (.type "getset_descriptor") (.fields #[(kS "__dict__" 1173), (.ref 655), (.builtin "function.__dict__"), (.builtin "function.__dict__#set")]) #[])) ::
  (nat_lit 657, (kO (.type "getset_descriptor") (.fields #[(kS "__weakref__" 1175), (.ref 655), (.builtin "ExceptionGroup.__weakref__"), .none]) #[])) ::
  (nat_lit 660, (kO (.type "tuple") (.seq #[] 0) #[])) ::
  (nat_lit 662, (kO (.type "tuple") (.seq #[(kS "deck" 1185), (kS "many" 1186)] 0) #[])) ::
  (nat_lit 663, (kO (.type "tuple") (.seq #[] 0) #[])) ::
  (nat_lit 665, (kO (.type "code") (.fields #[(kS "_law_draw" 1182), (kS "_law_draw" 1183), (kS "/claim/cut.py" 1184), (kI 423 0), (kI 2 0), (kI 0 0), (kI 0 0), (kI 3 0), (.ref 660), (.bool true), (kI 181 0), (.ref 661), .none, (.ref 662), (.ref 663), (.ref 664), (kI 1187 0), (kI 423 0), (kS "/claim/cut.py" 1188)]) #[])) ::
  (nat_lit 666, (kO (.type "function") (.func (FuncData.mk (Str.ofString "_law_draw") (Str.ofString "_law_draw") (fdP (topS 74)) (FuncBody.stmts (fdB (topS 74))) (fdS (topS 74)) 3 [] .none .none .none (kS "law_ok0069_01" 1180) none (.ref 665) .none 0)) #[])) ::
  (nat_lit 667, (kO (.type "tuple") (.seq #[] 0) #[])) ::
  (nat_lit 670, (kO (.type "code") (.fields #[(kS "_law_line_of" 1190), (kS "_law_line_of" 1191), (kS "/claim/cut.py" 1192), (kI 428 0), (kI 2 0), (kI 0 0), (kI 0 0), (kI 3 0), (.ref 667), (.bool true), (kI 181 0), (.ref 668), .none, .none, .none, (.ref 669), (kI 1193 0), (kI 428 0), (kS "/claim/cut.py" 1194)]) #[])) ::
  (nat_lit 671, (kO (.type "function") (.func (FuncData.mk (Str.ofString "_law_line_of") (Str.ofString "_law_line_of") (fdP (topS 75)) (FuncBody.stmts (fdB (topS 75))) (fdS (topS 75)) 3 [] .none .none .none (kS "law_ok0069_01" 1180) none (.ref 670) .none 0)) #[])) ::
  (nat_lit 672, (kO (.type "tuple") (.seq #[] 0) #[])) ::
  (nat_lit 674, (kO (.type "tuple") (.seq #[(kS "line_starts" 1199), (kS "first" 1200), (kS "place" 1201), (kS "count" 1202), (kS "high" 1203), (kS "later" 1204), (kS "line" 1205)] 0) #[])) ::
  (nat_lit 675, (kO (.type "tuple") (.seq #[] 0) #[])) ::
  (nat_lit 677, (kO (.type "code") (.fields #[(kS "_law_scrolled" 1196), (kS "_law_scrolled" 1197), (kS "/claim/cut.py" 1198), (kI 430 0), (kI 5 0), (kI 0 0), (kI 0 0), (kI 3 0), (.ref 672), (.bool true), (kI 181 0), (.ref 673), .none, (.ref 674), (.ref 675), (.ref 676), (kI 1206 0), (kI 430 0), (kS "/claim/cut.py" 1207)]) #[])) ::
  (nat_lit 678, (kO (.type "function") (.func (FuncData.mk (Str.ofString "_law_scrolled") (Str.ofString "_law_scrolled") (fdP (topS 76)) (FuncBody.stmts (fdB (topS 76))) (fdS (topS 76)) 3 [] .none .none .none (kS "law_ok0069_01" 1180) none (.ref 677) .none 0)) #[])) ::
  (nat_lit 679, (kO (.type "tuple") (.seq #[] 0) #[])) ::
  (nat_lit 681, (kO (.type "tuple") (.seq #[(kS "scroll" 1212), (kS "pane" 1213), (kS "begin" 1214), (kS "place" 1215), (kS "count" 1216), (kS "kept" 1217), (kS "error" 1218)] 0) #[])) ::
  (nat_lit 682, (kO (.type "tuple") (.seq #[] 0) #[])) ::
  (nat_lit 684, (kO (.type "code") (.fields #[(kS "_law_told" 1209), (kS "_law_told" 1210), (kS "/claim/cut.py" 1211), (kI 442 0), (kI 6 0), (kI 0 0), (kI 0 0), (kI 3 0), (.ref 679), (.bool true), (kI 181 0), (.ref 680), .none, (.ref 681), (.ref 682), (.ref 683), (kI 1219 0), (kI 442 0), (kS "/claim/cut.py" 1220)]) #[])) ::
  (nat_lit 685, (kO (.type "function") (.func (FuncData.mk (Str.ofString "_law_told") (Str.ofString "_law_told") (fdP (topS 77)) (FuncBody.stmts (fdB (topS 77))) (fdS (topS 77)) 3 [] .none .none .none (kS "law_ok0069_01" 1180) none (.ref 684) .none 0)) #[])) ::
  (nat_lit 686, (kO (.type "tuple") (.seq #[] 0) #[])) ::
  (nat_lit 689, (kO (.type "code") (.fields #[(kS "law" 1222), (kS "law" 1223), (kS "/claim/cut.py" 1224), (kI 447 0), (kI 1 0), (kI 0 0), (kI 0 0), (kI 3 0), (.ref 686), (.bool true), (kI 181 0), (.ref 687), .none, .none, .none, (.ref 688), (kI 1225 0), (kI 447 0), (kS "/claim/cut.py" 1226)]) #[])) ::
  (nat_lit 690, (kO (.type "function") (.func (FuncData.mk (Str.ofString "law") (Str.ofString "law") (fdP (topS 78)) (FuncBody.stmts (fdB (topS 78))) (fdS (topS 78)) 3 [] .none .none .none (kS "law_ok0069_01" 1180) none (.ref 689) .none 0)) #[])) ::
  []
example : (fun (_ : OpenLaw) (_ : Params → Frag) => True) PySem.Challenge.rw_ok0069_01 hd.heap_39 := by
  k_fill
  trivial

section
variable {prog : Program} {w : World} {p : Program} {loose : List Str} {mean : ExcName → Option Value} {mg mb : Str → Option Value}

/-- where a def may be called: n more frames have room -/
structure Sur (w : World) (p : Program) (loose : List Str) (mean : ExcName → Option Value) (mg mb : Str → Option Value) (A : Around) (h : Heap) (n : Nat) : Prop where
  below : ∃ base outer, Below A base outer h
  inK : (hd.heap_39 w.params).In h
  top : Top p loose mean mg mb h
  room : A.depth + n ≤ 400
  units : A.units + 10 * n ≤ 1000
  hand : A.handled = none

end

theorem instAt_get {h : Heap} {x C dx : Addr} {od : Obj} (h1 : h.get? x = some (instObj C dx)) (h2 : h.get? dx = some od) : InstAt h x (instObj C dx) C (some od) := ⟨h1, rfl, rfl, h2⟩
theorem isL {h : Heap} {l : Addr} {its : Array Value} {n : Nat} (e : h.get? l = some (PySem.W.listOf its n)) : h.IsList l its := ⟨_, e, rfl, _, rfl⟩
noncomputable abbrev tupOf (its : List Value) (n : Nat) : Obj := { cls := .type "tuple", data := .seq its.toArray n }
theorem isT {h : Heap} {l : Addr} {its : List Value} {n : Nat} (e : h.get? l = some (tupOf its n)) : IsTup h l its.toArray := ⟨_, e, rfl, _, rfl⟩

section
variable {prog : Program} {w : World} {A : Around} {E : Value → Shared → Prop} {s : Shared} {env : Env}

/-- (a, 0) < (b, 0) -/
theorem lt_spots {x y : Addr} {a b : Int} {t1 t2 t3 t4 : Tok} {n k : Nat} {Q : Value → Shared → Prop} (hx : s.heap.get? x = some (tupOf [.int a t1, .int 0 t2] n)) (hy : s.heap.get? y = some (tupOf [.int b t3, .int 0 t4] k))
    (hu : A.units < cLine) (h : Q (.bool (decide (a < b))) s) : wpAny (model prog w) A (compareOp .Lt (.ref x) (.ref y)) Q E s := by
  have hTx : s.TypeIs (.ref x) "tuple" := ⟨_, hx, rfl⟩
  have hTy : s.TypeIs (.ref y) "tuple" := ⟨_, hy, rfl⟩
  refine wpAny_richCompare_same_room (op := .Lt) hTx hTy F.slot_tuple_lt (wpAny_call_entry F.slot_tuple_lt hTx F.entry_tuple_lt ?_ (F.args_tuple_lt_2 _ _)) hu
  show wpAny _ _ (isInstance (.ref y) (.type "tuple") >>= _) _ _ s
  refine wpAny_bind (wpAny_isInstance hTy isSubtype_tuple_tuple ?_)
  simp only [Bool.not_true, Bool.false_eq_true, if_false]
  refine wpAny_bind (wpAny_tupleItemsOf hx rfl ?_)
  refine wpAny_bind (wpAny_tupleItemsOf hy rfl ?_)
  refine wpAny_bind ?_
  show wpAny _ _ (forIn [(Value.int a t1, Value.int b t3), (Value.int 0 t2, Value.int 0 t4)] _ _) _ _ s
  rw [List.forIn_cons]
  refine wpAny_bind (wpAny_bind (wpAny_eqBool_int ?_))
  by_cases e : a = b
  · subst e
    simp only [beq_self_eq_true, Bool.not_true, Bool.false_eq_true, if_false]
    refine wpAny_pure ?_
    dsimp only
    rw [List.forIn_cons]
    refine wpAny_bind (wpAny_bind (wpAny_eqBool_int ?_))
    simp only [beq_self_eq_true, Bool.not_true, Bool.false_eq_true, if_false]
    refine wpAny_pure ?_
    dsimp only
    rw [List.forIn_nil]
    refine wpAny_pure ?_
    refine wpAny_pure ⟨_, rfl, (fun q => nomatch q), ?_⟩
    have z : decide (a < a) = false := by simp
    rw [z] at h
    exact h
  · have z : (a == b) = false := by simpa using e
    simp only [z, Bool.not_false, if_true]
    refine wpAny_bind (wpAny_rule ?_)
    refine wpAny_bind (lt_int ?_)
    refine wpAny_bind (wpAny_pure (wpAny_pure (wpAny_pure ?_)))
    exact wpAny_pure ⟨_, rfl, (fun q => nomatch q), h⟩

theorem len_known {l : Addr} {its : Array Value} {n k : Nat} {Q : Value → Shared → Prop} (hl : s.heap.get? l = some (PySem.W.listOf its n)) (hk : its.size = k) (hb : k ≤ 1000) (h : Q (.int k (s.toks + 1)) { s with toks := s.toks + 1 + 1 }) : wpAny (model prog w) A (call (.builtin "len") [.ref l]) Q E s := by
  subst hk
  exact len_list (isL hl) (by omega) h
theorem item_get {value slice : Expr} {l : Addr} {its : Array Value} {n : Nat} {k : Int} {u : Tok} {x : Value} {Q : Value → Shared → Prop} (hl : s.heap.get? l = some (PySem.W.listOf its n))
    (h0 : 0 ≤ k) (hf : k < 2 ^ 63) (hx : its[k.toNat]? = some x) (h : Q x s)
    (hs : subscripted slice false (.ref l) (.int k u) = operate [.ref l, .int k u] (getItem (.ref l) (.int k u)) := by with_unfolding_all rfl) :
    wpAny (model prog w) A (subscriptTail value slice (.ref l) (.int k u)) Q E s := tail_any (isL hl).typeIs slot_list_getitem.lookup (wpAny_getItem_list (isL hl) h0 hf hx h) hs
theorem tup_get {value slice : Expr} {t : Addr} {its : List Value} {n : Nat} {k : Int} {u : Tok} {j : Nat} {x : Value} {Q : Value → Shared → Prop} (ht : s.heap.get? t = some (tupOf its n))
    (hlo : -(2 ^ 63) ≤ k) (hhi : k < 2 ^ 63) (hj : seqIndex? k its.length = some j) (hx : its[j]? = some x) (h : Q x s)
    (hs : subscripted slice false (.ref t) (.int k u) = operate [.ref t, .int k u] (getItem (.ref t) (.int k u)) := by with_unfolding_all rfl) :
    wpAny (model prog w) A (subscriptTail value slice (.ref t) (.int k u)) Q E s := item_tupleT (isT ht) hlo hhi hj hx h hs
/-- a marker at which the walk stands still -/
noncomputable def Hold (P : Prop) : Prop := P
theorem Hold.out {P : Prop} (h : Hold P) : P := h
noncomputable def New (h h' : Heap) (tl : List (Addr × Obj)) : Prop := ∀ p ∈ tl, h'.get? p.1 = some p.2 ∧ h.get? p.1 = none
end

section
variable {prog : Program} {w : World} {p : Program} {loose : List Str} {mean : ExcName → Option Value} {mg mb : Str → Option Value}

theorem enterM {A : Around} {s : Shared} {n : Nat} {wd : Addr} {D : Obj} {name qual : Str} {params : Arguments} {body : List Stmt} {scope : Scope} {dV kV doc pm cdv ct oc : Value} {an od : Option Addr} {osl : Array (Option Value)} {f : Addr} {args : List Value} {binds : List (Str × Value)}
    {Q E : Value → Shared → Prop}
    (S : Sur w p loose mean mg mb A (s.heap.hide wd) (n + 1)) (hD : s.heap.get? wd = some D)
    (ho : (hd.heap_39 w.params).lookup f = some ⟨oc, od, .func (fnOf name qual params body scope dV kV doc pm an cdv ct), osl⟩) (hcd : codeIn (hd.heap_39 w.params) cdv qual = true)
    (hbind : BindsTo s (fnOf name qual params body scope dV kV doc pm an cdv ct) ⟨args, []⟩ binds) (hloc : ∀ y ∈ binds, scope.names.lookup y.1 = some .local)
    (h : ∀ g base outer L' h₁, g = s.heap.hide wd → Below A base outer g → (hd.heap_39 w.params).In g → Top p loose mean mg mb g → A.depth + (n + 1) ≤ 400 → A.units + 10 * (n + 1) ≤ 1000 → A.handled = none →
      Fr g L' h₁ (fun y => binds.reverse.lookup y) → News g L' h₁ [(wd, D)] →
      wpAny (model prog w) (A.deeper (envOf qual scope L' f cdv)) (execs body (envOf qual scope L' f cdv))
        (fun fl s' => Q (match fl with | .ret v => v | _ => .none) s') (fun _ _ => False) { s with heap := h₁, toks := s.toks + binds.length })
    (hco : scope.isCoroutine = false) (hgen : scope.isGenerator = false) (hk : scope.kind = .function) (hcell : ∀ x ∈ scope.names, x.2 ≠ .cell) :
    wpAny (model prog w) A (call (.ref f) args) Q E s := by
  obtain ⟨⟨base, outer, B⟩, X, T, hd, hu, hh⟩ := S
  have hl : recursionLimit = 1000 := rfl
  have up : ∀ b o, (s.heap.hide wd).get? b = some o → s.heap.get? b = some o := fun b o e => Heap.of_hide e
  refine wpAny_call (codeAny_call_def (fd := fnOf name qual params body scope dV kV doc pm an cdv ct) (body := body) (binds := binds) (by omega) (up _ _ (X _ _ ho)) rfl (T.nolimit.keeps up) (codeRec_of (X.keeps up) hcd) rfl hbind hcell hloc (fun h₁ hns hk₁ => ?_) hco hgen hk)
  refine wpAny_mono (h _ base outer s.heap.objs.size h₁ rfl B X T hd hu hh ⟨hns, fun b o e => hk₁ b o (up b o e), Nat.le_of_eq (Heap.hide_size s.heap wd)⟩ (fun p hp => ?_)) (fun _ _ x => x) (fun _ _ x => x.elim)
  rw [List.mem_singleton.mp hp]
  exact ⟨hk₁ _ _ hD, Nat.ne_of_lt (Heap.lt_size hD), Heap.hide_self _ _⟩

/-- what a call that changes wd alone hands back -/
theorem keptM {g h h' : Heap} {L wd : Addr} {m : Str → Option Value} (eg : g = h.hide wd) (F : Fr g L h' m) : ∀ b o, b ≠ wd → h.get? b = some o → h'.get? b = some o := fun b o hb e =>
  F.keep b o (by rw [eg]; exact (Heap.hide_ne h (a := wd) (b := b) hb).trans e)
end

noncomputable section
/-! the abstract machine: values and what they stand for -/
noncomputable section
noncomputable def strEq (a b : Str) : Bool := List.beq a.cps.toList b.cps.toList
theorem strEq_iff {a b : Str} : strEq a b = true ↔ a = b := by
  show (a.cps.toList == b.cps.toList) = true ↔ _
  rw [beq_iff_eq]
  exact ⟨fun h => by obtain ⟨x⟩ := a; obtain ⟨y⟩ := b; exact congrArg Str.mk (Array.toList_inj.mp h), fun h => h ▸ rfl⟩
theorem strEq_no {a b : Str} (h : strEq a b = false) : a ≠ b := fun e => by rw [strEq_iff.mpr e] at h; cases h
noncomputable def lk {α : Type} (x : Str) (l : List (Str × α)) : Option α := List.rec none (fun h _ ih => cond (strEq x h.1) (some h.2) ih) l
noncomputable def setL {α : Type} (x : Str) (v : α) (l : List (Str × α)) : List (Str × α) := List.rec [(x, v)] (fun h t ih => cond (strEq x h.1) ((h.1, v) :: t) (h :: ih)) l
theorem lk_set {α : Type} (x : Str) (v : α) (l : List (Str × α)) (y : Str) : lk y (setL x v l) = if y = x then some v else lk y l := by
  induction l with
  | nil =>
    show cond (strEq y x) (some v) none = _
    cases h : strEq y x with
    | true => exact (if_pos (strEq_iff.mp h)).symm
    | false => exact (if_neg (strEq_no h)).symm
  | cons p r ih =>
    show lk y (cond (strEq x p.1) ((p.1, v) :: r) (p :: setL x v r)) = if y = x then some v else cond (strEq y p.1) (some p.2) (lk y r)
    cases h : strEq x p.1 with
    | true =>
      have e := strEq_iff.mp h
      show cond (strEq y p.1) (some v) (lk y r) = _
      rw [← e]
      cases q : strEq y x with
      | true => exact (if_pos (strEq_iff.mp q)).symm
      | false => exact (if_neg (strEq_no q)).symm
    | false =>
      show cond (strEq y p.1) (some p.2) (lk y (setL x v r)) = _
      cases q : strEq y p.1 with
      | true =>
        refine (if_neg fun e => ?_).symm
        rw [← e, q] at h; cases h
      | false => exact ih
inductive PV where
  | int (z : Int) | bool (b : Bool) | sbool (b : Bool) | none | str (s : Str) | glob (v : Value) | any | anyi
  | tup (l : List PV) | list (l : List PV) | seq (k : Nat) (f : Nat → PV)
  | inst (C : Addr) (fs : List (Str × PV))
  | cell (i : Nat) | mob (C : Addr) (i : Nat)
  | obj (R : Heap → Addr → Prop)
  | var (i : Nat) | nsv (i : Nat)
inductive MO where
  | list (l : List PV) | seq (k : Nat) (f : Nat → PV) | dict (fs : List (Str × PV)) | raw (o : Obj) | var (p : PV) | novar | ns (x : Str) (p : PV)
mutual
inductive Is (w : World) (F : Addr → Obj → Prop) (ms : List Addr) : PV → Value → Prop
  | int {z t} : Is w F ms (.int z) (.int z t)
  | bool {b} : Is w F ms (.bool b) (.bool b)
  | sbool {b} : Is w F ms (.sbool b) (.bool b)
  | none : Is w F ms .none .none
  | str {s t} : Is w F ms (.str s) (.str s t)
  | glob {v} : handedIn v = true → Is w F ms (.glob v) v
  | any {v} : handedIn v = true → Is w F ms .any v
  | anyi {z t} : Is w F ms .anyi (.int z t)
  | tup {l a n vs} : F a (tupOf vs n) → IsL w F ms l vs → Is w F ms (.tup l) (.ref a)
  | list {l a n vs} : F a (PySem.W.listOf (List.toArray vs) n) → IsL w F ms l vs → Is w F ms (.list l) (.ref a)
  | seq {k f a n} {vs : List Value} : F a (PySem.W.listOf (List.toArray vs) n) → vs.length = k → (∀ (j : Nat) v, vs[j]? = some v → Is w F ms (f j) v) → Is w F ms (.seq k f) (.ref a)
  | inst {C fs a d} {es : List DictEntry} : F a (instObj C d) → F d (dictOf es es.length) → IsD w F ms fs es → Is w F ms (.inst C fs) (.ref a)
  | cell {i a} : ms[i]? = some a → Is w F ms (.cell i) (.ref a)
  | mob {C i a d} : F a (instObj C d) → ms[i]? = some d → Is w F ms (.mob C i) (.ref a)
  | obj {R a} : (∀ h : Heap, (∀ b o, F b o → h.get? b = some o) → R h a) → Is w F ms (.obj R) (.ref a)
inductive IsL (w : World) (F : Addr → Obj → Prop) (ms : List Addr) : List PV → List Value → Prop
  | nil : IsL w F ms [] []
  | cons {p v l vs} : Is w F ms p v → IsL w F ms l vs → IsL w F ms (p :: l) (v :: vs)
inductive IsD (w : World) (F : Addr → Obj → Prop) (ms : List Addr) : List (Str × PV) → List DictEntry → Prop
  | nil : IsD w F ms [] []
  | cons {x p v t fs es} : Is w F ms p v → IsD w F ms fs es → IsD w F ms ((x, p) :: fs) (⟨PyData.keyHash w.params x, .str x t, v⟩ :: es)
end
section
variable {w : World} {F F' : Addr → Obj → Prop} {ms ms' : List Addr}
theorem Is.mono (hF : ∀ a o, F a o → F' a o) (hm : ∀ (i : Nat) a, ms[i]? = some a → ms'[i]? = some a) {p v} (i : Is w F ms p v) : Is w F' ms' p v :=
  Is.rec (motive_1 := fun p v _ => Is w F' ms' p v) (motive_2 := fun l vs _ => IsL w F' ms' l vs) (motive_3 := fun l vs _ => IsD w F' ms' l vs)
    .int .bool .sbool .none .str .glob .any .anyi (fun h _ l => .tup (hF _ _ h) l) (fun h _ l => .list (hF _ _ h) l) (fun h e _ l => .seq (hF _ _ h) e l) (fun h h2 _ l => .inst (hF _ _ h) (hF _ _ h2) l)
    (fun h => .cell (hm _ _ h)) (fun h h2 => .mob (hF _ _ h) (hm _ _ h2)) (fun h => .obj fun g hg => h g fun b o q => hg b o (hF b o q)) .nil (fun _ _ i l => .cons i l) .nil (fun _ _ i l => .cons i l) i
theorem IsL.ind {P : List PV → List Value → Prop} (nil : P [] []) (cons : ∀ {p v l vs}, Is w F ms p v → IsL w F ms l vs → P l vs → P (p :: l) (v :: vs)) {l vs} (h : IsL w F ms l vs) : P l vs :=
  IsL.rec (motive_1 := fun _ _ _ => True) (motive_2 := fun l vs _ => P l vs) (motive_3 := fun _ _ _ => True) trivial trivial trivial trivial trivial (fun _ => trivial) (fun _ => trivial) trivial (fun _ _ _ => trivial) (fun _ _ _ => trivial) (fun _ _ _ _ => trivial) (fun _ _ _ _ => trivial)
    (fun _ => trivial) (fun _ _ => trivial) (fun _ => trivial) nil (fun h l _ ih => cons h l ih) trivial (fun _ _ _ _ => trivial) h
theorem IsD.ind {P : List (Str × PV) → List DictEntry → Prop} (nil : P [] []) (cons : ∀ {x p v t l vs}, Is w F ms p v → IsD w F ms l vs → P l vs → P ((x, p) :: l) (⟨PyData.keyHash w.params x, .str x t, v⟩ :: vs)) {l vs} (h : IsD w F ms l vs) : P l vs :=
  IsD.rec (motive_1 := fun _ _ _ => True) (motive_2 := fun _ _ _ => True) (motive_3 := fun l vs _ => P l vs) trivial trivial trivial trivial trivial (fun _ => trivial) (fun _ => trivial) trivial (fun _ _ _ => trivial) (fun _ _ _ => trivial) (fun _ _ _ _ => trivial) (fun _ _ _ _ => trivial)
    (fun _ => trivial) (fun _ _ => trivial) (fun _ => trivial) trivial (fun _ _ _ _ => trivial) nil (fun h l _ ih => cons h l ih) h
theorem IsL.conv {g : PV → PV} (hg : ∀ p v, Is w F ms p v → Is w F' ms' (g p) v) {l vs} (h : IsL w F ms l vs) : IsL w F' ms' (l.map g) vs := h.ind (P := fun l vs => IsL w F' ms' (l.map g) vs) .nil fun i _ ih => .cons (hg _ _ i) ih
theorem IsD.conv {g : PV → PV} (hg : ∀ p v, Is w F ms p v → Is w F' ms' (g p) v) {l vs} (h : IsD w F ms l vs) : IsD w F' ms' (l.map fun x : Str × PV => (x.1, g x.2)) vs := h.ind (P := fun l vs => IsD w F' ms' (l.map fun x : Str × PV => (x.1, g x.2)) vs) .nil fun i _ ih => .cons (hg _ _ i) ih
theorem IsL.mono (hF : ∀ a o, F a o → F' a o) (hm : ∀ (i : Nat) a, ms[i]? = some a → ms'[i]? = some a) {p v} (i : IsL w F ms p v) : IsL w F' ms' p v := i.ind (P := fun l vs => IsL w F' ms' l vs) .nil fun i _ ih => .cons (i.mono hF hm) ih
theorem IsD.mono (hF : ∀ a o, F a o → F' a o) (hm : ∀ (i : Nat) a, ms[i]? = some a → ms'[i]? = some a) {p v} (i : IsD w F ms p v) : IsD w F' ms' p v := i.ind (P := fun l vs => IsD w F' ms' l vs) .nil fun i _ ih => .cons (i.mono hF hm) ih
theorem Is.handed {p v} (i : Is w F ms p v) : handedIn v = true := by cases i <;> first | rfl | assumption
theorem IsL.length {l vs} (h : IsL w F ms l vs) : l.length = vs.length := h.ind (P := fun l vs => l.length = vs.length) rfl fun _ _ ih => congrArg (· + 1) ih
theorem IsL.get {l vs} (h : IsL w F ms l vs) : ∀ {j : Nat} {p : PV}, l[j]? = some p → ∃ v, vs[j]? = some v ∧ Is w F ms p v :=
  IsL.ind (P := fun l vs => ∀ {j : Nat} {p : PV}, l[j]? = some p → ∃ v, vs[j]? = some v ∧ Is w F ms p v) (fun e => nomatch e) (fun {_ v _ _} i _ ih j p e => match j with
    | 0 => ⟨v, rfl, Option.some.inj e ▸ i⟩
    | j + 1 => ih (j := j) e) h
theorem IsL.append {l vs l' vs'} (h : IsL w F ms l vs) (h' : IsL w F ms l' vs') : IsL w F ms (l ++ l') (vs ++ vs') := h.ind (P := fun l vs => IsL w F ms (l ++ l') (vs ++ vs')) h' fun i _ ih => .cons i ih
end
/-- the world's frozen objects and the addresses of the cells -/
structure Wd where
  fr : List (Addr × Obj)
  ms : List Addr
noncomputable def Wd.fact (W : Wd) (F : Addr → Obj → Prop) (a : Addr) (o : Obj) : Prop := F a o ∨ (a, o) ∈ W.fr
structure Wd.le (W W' : Wd) : Prop where
  fr : ∀ p ∈ W.fr, p ∈ W'.fr
  ms : ∀ (i : Nat) a, W.ms[i]? = some a → W'.ms[i]? = some a
theorem Wd.le.rfl {W : Wd} : W.le W := ⟨fun _ h => h, fun _ _ h => h⟩
theorem Wd.le.trans {W W' W'' : Wd} (h : W.le W') (k : W'.le W'') : W.le W'' := ⟨fun p q => k.fr p (h.fr p q), fun i a q => k.ms i a (h.ms i a q)⟩
inductive IsM (w : World) (F : Addr → Obj → Prop) (ms : List Addr) : MO → Obj → Prop
  | list {l vs n} : IsL w F ms l vs → IsM w F ms (.list l) (PySem.W.listOf (List.toArray vs) n)
  | seq {k f n} {vs : List Value} : vs.length = k → (∀ (j : Nat) v, vs[j]? = some v → Is w F ms (f j) v) → IsM w F ms (.seq k f) (PySem.W.listOf (List.toArray vs) n)
  | dict {fs} {es : List DictEntry} : IsD w F ms fs es → IsM w F ms (.dict fs) (dictOf es es.length)
  | raw {o} : IsM w F ms (.raw o) o
  | var {p v o} : o.data = .cell (some v) → Is w F ms p v → IsM w F ms (.var p) o
  | novar {o} : o.data = .cell none → IsM w F ms .novar o
  | ns {x p v o m} : LCg.NsObj o m → m x = some v → Is w F ms p v → IsM w F ms (.ns x p) o
theorem IsM.mono {w : World} {F F' : Addr → Obj → Prop} {ms ms' : List Addr} (hF : ∀ a o, F a o → F' a o) (hm : ∀ (i : Nat) a, ms[i]? = some a → ms'[i]? = some a) {p v} (i : IsM w F ms p v) : IsM w F' ms' p v := by
  cases i with
  | list l => exact .list (l.mono hF hm)
  | seq e l => exact .seq e fun j v q => (l j v q).mono hF hm
  | dict l => exact .dict (l.mono hF hm)
  | raw => exact .raw
  | var e i => exact .var e (i.mono hF hm)
  | novar e => exact .novar e
  | ns a b i => exact .ns a b (i.mono hF hm)
section
variable {w : World} {F : Addr → Obj → Prop} {W W' : Wd}
theorem Wd.le.fact (h : W.le W') (a : Addr) (o : Obj) (q : W.fact F a o) : W'.fact F a o := q.elim .inl fun q => .inr (h.fr _ q)
theorem Is.up (h : W.le W') {p v} (i : Is w (W.fact F) W.ms p v) : Is w (W'.fact F) W'.ms p v := i.mono h.fact h.ms
theorem IsL.up (h : W.le W') {p v} (i : IsL w (W.fact F) W.ms p v) : IsL w (W'.fact F) W'.ms p v := i.mono h.fact h.ms
theorem IsM.up (h : W.le W') {p v} (i : IsM w (W.fact F) W.ms p v) : IsM w (W'.fact F) W'.ms p v := i.mono h.fact h.ms
end

/-- what all of one run share -/
structure Gl (w : World) where
  prog : Program
  p : Program
  loose : List Str
  mean : ExcName → Option Value
  mg : Str → Option Value
  mb : Str → Option Value
/-- one run of a block: env and surroundings, the frame's object L, what lies below -/
structure Act (w : World) extends Gl w where
  env : Env
  A : Around
  H : Heap
  L : Addr
  n : Nat
  gs : Array GenState
  dr : Drawn
  os : OsState
  F : Addr → Obj → Prop
  hF : ∀ a o, F a o → H.get? a = some o
  X : (hd.heap_39 w.params).In H
  T : Top p loose mean mg mb H
  sur : ∀ h m (cs : List (Addr × Obj)), Fr H L h m → News H L h cs → Sur w p loose mean mg mb A (hideAll h (cs.map (·.1))) n
  units : A.units < 9000
  hand : A.handled = none
  kind : env.scope.kind = .function
  glob : env.globals = mainGlobals
  blt : env.builtins = builtinsNs
noncomputable abbrev Act.cs {w : World} (c : Act w) : Scope := c.env.scope
noncomputable abbrev Act.M {w : World} (c : Act w) : Model := model c.prog w
noncomputable abbrev Act.sh {w : World} (c : Act w) (h : Heap) (tk : Nat) : Shared := ⟨h, c.gs, c.dr, tk, c.os⟩
noncomputable abbrev never : Value → Shared → Prop := fun _ _ => False
structure AS where
  loc : List (Str × PV)
  cells : List MO
/-- a name's value: in the frame, or in a cell of its own, or in a block's own names -/
inductive Holds {w : World} (c : Act w) (W : Wd) (m : Str → Option Value) (x : Str) : PV → Prop
  | frame {p v} : Is w (W.fact c.F) W.ms p v → m x = some v → Holds c W m x p
  | var {i a} : c.env.scope.names.lookup x ≠ some .local → c.env.cells.lookup x = some a → W.ms[i]? = some a → Holds c W m x (.var i)
  | nsv {i} : c.env.locals ≠ c.L → W.ms[i]? = some c.env.locals → Holds c W m x (.nsv i)
theorem Holds.up {w : World} {c : Act w} {W W' : Wd} {m : Str → Option Value} {x : Str} {p : PV} (h : W.le W') (k : Holds c W m x p) : Holds c W' m x p := by
  cases k with
  | frame i e => exact .frame (i.up h) e
  | var n e1 e2 => exact .var n e1 (h.ms _ _ e2)
  | nsv n e => exact .nsv n (h.ms _ _ e)
/-- the abstract state stands for the heap -/
structure RepX {w : World} (c : Act w) (W : Wd) (st : AS) (h : Heap) (m : Str → Option Value) (cs : List (Addr × Obj)) : Prop where
  fr : Fr c.H c.L h m
  news : News c.H c.L h (cs ++ W.fr)
  ms : cs.map (·.1) = W.ms
  nodup : W.ms.Nodup
  sep : ∀ p ∈ W.fr, p.1 ∉ W.ms
  loc : ∀ x p, lk x st.loc = some p → Holds c W m x p
  len : st.cells.length = cs.length
  cells : ∀ (i : Nat) mo, st.cells[i]? = some mo → ∃ a o, cs[i]? = some (a, o) ∧ IsM w (W.fact c.F) W.ms mo o
noncomputable def Rep {w : World} (c : Act w) (W : Wd) (st : AS) (h : Heap) : Prop := ∃ m cs, RepX c W st h m cs
section
variable {w : World} {c : Act w} {W : Wd} {st : AS} {h h' : Heap} {m : Str → Option Value} {cs tl : List (Addr × Obj)}
theorem RepX.at (R : RepX c W st h m cs) {a : Addr} {o : Obj} (q : W.fact c.F a o) : h.get? a = some o :=
  q.elim (fun q => R.fr.keep _ _ (c.hF _ _ q)) (fun q => (R.news _ (List.mem_append_right _ q)).1)
/-- the object of a cell -/
theorem RepX.cellAt (R : RepX c W st h m cs) {i : Nat} {mo : MO} {a : Addr} (e : st.cells[i]? = some mo) (q : W.ms[i]? = some a) : ∃ o, cs[i]? = some (a, o) ∧ h.get? a = some o ∧ IsM w (W.fact c.F) W.ms mo o := by
  obtain ⟨b, o, e1, im⟩ := R.cells _ _ e
  rw [← R.ms, List.getElem?_map, e1] at q
  obtain rfl : b = a := Option.some.inj q
  exact ⟨o, e1, (R.news _ (List.mem_append_left _ (List.mem_of_getElem? e1))).1, im⟩
theorem RepX.grow (R : RepX c W st h m cs) (F' : Fr c.H c.L h' m) (N' : News c.H c.L h' (tl ++ (cs ++ W.fr))) (ne : ∀ p ∈ tl, p.1 ∉ W.ms) :
    RepX c ⟨tl ++ W.fr, W.ms⟩ st h' m cs ∧ W.le ⟨tl ++ W.fr, W.ms⟩ := by
  have le : W.le ⟨tl ++ W.fr, W.ms⟩ := ⟨fun p q => List.mem_append_right _ q, fun _ _ q => q⟩
  refine ⟨⟨F', fun p hp => N' p ?_, R.ms, R.nodup, fun p hp => (List.mem_append.mp hp).elim (ne p) (R.sep p), fun x p e => (R.loc x p e).up le, R.len, fun i mo e => ?_⟩, le⟩
  · rcases List.mem_append.mp hp with h | h
    · exact List.mem_append_right _ (List.mem_append_left _ h)
    · rcases List.mem_append.mp h with h | h
      · exact List.mem_append_left _ h
      · exact List.mem_append_right _ (List.mem_append_right _ h)
  · obtain ⟨a, o, e, i⟩ := R.cells i mo e
    exact ⟨a, o, e, i.up le⟩
theorem RepX.same (R : RepX c W st h m cs) (F' : Fr c.H c.L h' m) (N' : News c.H c.L h' (cs ++ W.fr)) : RepX c W st h' m cs :=
  ⟨F', N', R.ms, R.nodup, R.sep, R.loc, R.len, R.cells⟩
theorem RepX.above (R : RepX c W st h m cs) {D : Addr} (lt : ∀ p ∈ cs ++ W.fr, p.1 < D) : D ∉ W.ms := fun hm => by
  rw [← R.ms] at hm
  obtain ⟨p, hp, e⟩ := List.mem_map.mp hm
  exact absurd (lt p (List.mem_append_left _ hp)) (e ▸ Nat.lt_irrefl _)
theorem get_snoc {α : Type} {l : List α} {x y : α} {i : Nat} (e : (l ++ [x])[i]? = some y) : l[i]? = some y ∨ (i = l.length ∧ x = y) := by
  by_cases hi : i < l.length
  · rw [List.getElem?_append_left hi] at e; exact .inl e
  · rw [List.getElem?_append_right (Nat.not_lt.mp hi)] at e
    have := (List.getElem?_eq_some_iff.mp e).1
    have h0 : i - l.length = 0 := Nat.lt_one_iff.mp this
    rw [h0] at e
    exact .inr ⟨Nat.le_antisymm (Nat.sub_eq_zero_iff_le.mp h0) (Nat.not_lt.mp hi), Option.some.inj e⟩
theorem nodup_snoc {α : Type} {l : List α} {x : α} (h : l.Nodup) (n : x ∉ l) : (l ++ [x]).Nodup :=
  List.nodup_append.mpr ⟨h, List.nodup_cons.mpr ⟨List.not_mem_nil, List.nodup_nil⟩, fun a ha b hb e => n (by rw [← List.mem_singleton.mp hb, ← e]; exact ha)⟩
/-- one more cell -/
theorem RepX.snoc (R : RepX c W st h m cs) (F' : Fr c.H c.L h' m) {I : Addr} {o : Obj} {mo : MO} (N' : News c.H c.L h' ((I, o) :: (cs ++ W.fr))) (ne : ∀ p ∈ cs ++ W.fr, p.1 ≠ I) (im : IsM w (Wd.fact ⟨W.fr, W.ms ++ [I]⟩ c.F) (W.ms ++ [I]) mo o) :
    RepX c ⟨W.fr, W.ms ++ [I]⟩ { st with cells := st.cells ++ [mo] } h' m (cs ++ [(I, o)]) ∧ W.le ⟨W.fr, W.ms ++ [I]⟩ := by
  have l2 : W.le ⟨W.fr, W.ms ++ [I]⟩ := ⟨fun _ q => q, fun i a q => (List.getElem?_append_left (List.getElem?_eq_some_iff.mp q).1).trans q⟩
  have nI : I ∉ W.ms := fun hm => by
    rw [← R.ms] at hm
    obtain ⟨p, hp, e⟩ := List.mem_map.mp hm
    exact ne p (List.mem_append_left _ hp) e
  refine ⟨⟨F', fun p hp => N' p ?_, ?_, nodup_snoc R.nodup nI, fun p hp hm => ?_, fun x p e => (R.loc x p e).up l2, ?_, fun i mo' e => ?_⟩, l2⟩
  · rcases List.mem_append.mp hp with h | h
    · rcases List.mem_append.mp h with h | h
      · exact .tail _ (List.mem_append_left _ h)
      · rw [List.mem_singleton.mp h]; exact .head _
    · exact .tail _ (List.mem_append_right _ h)
  · rw [List.map_append, R.ms]; rfl
  · rcases List.mem_append.mp hm with hm | hm
    · exact R.sep p hp hm
    · exact ne p (List.mem_append_right _ hp) (List.mem_singleton.mp hm)
  · rw [List.length_append, List.length_append, R.len]; rfl
  · rcases get_snoc e with e | ⟨rfl, rfl⟩
    · obtain ⟨a, o', e1, i1⟩ := R.cells i mo' e
      exact ⟨a, o', (List.getElem?_append_left (List.getElem?_eq_some_iff.mp e1).1).trans e1, i1.up l2⟩
    · exact ⟨I, o, by rw [R.len, List.getElem?_append_right (Nat.le_refl _), Nat.sub_self]; rfl, im⟩
theorem RepX.last (R : RepX c W st h m cs) {I : Addr} : (W.ms ++ [I])[st.cells.length]? = some I := by
  have : st.cells.length = W.ms.length := by rw [R.len, ← R.ms, List.length_map]
  rw [this, List.getElem?_append_right (Nat.le_refl _), Nat.sub_self]; rfl
theorem RepX.store (R : RepX c W st h m cs) {x : Str} {v : Value} {p : PV} (i : Is w (W.fact c.F) W.ms p v) (F' : Fr c.H c.L h' (fun y => if y = x then some v else m y)) (N' : News c.H c.L h' (cs ++ W.fr)) :
    RepX c W { st with loc := setL x p st.loc } h' (fun y => if y = x then some v else m y) cs := by
  refine ⟨F', N', R.ms, R.nodup, R.sep, fun y q e => ?_, R.len, R.cells⟩
  rw [show lk y (setL x p st.loc) = _ from lk_set ..] at e
  by_cases hy : y = x
  · rw [if_pos hy] at e
    cases e
    exact .frame i (if_pos hy)
  · rw [if_neg hy] at e
    cases R.loc y q e with
    | frame iu eu => exact .frame iu ((if_neg hy).trans eu)
    | var n e1 e2 => exact .var n e1 e2
    | nsv n e1 => exact .nsv n e1
end

/-- what a run goes on with -/
noncomputable def To {w : World} {α : Type} (c : Act w) (W : Wd) (st' : AS) (I : Wd → α → Prop) (Q : α → Shared → Prop) : Prop := ∀ W' v h' tk', W.le W' → Rep c W' st' h' → I W' v → Q v (c.sh h' tk')
noncomputable def Rn {w : World} {α : Type} (c : Act w) (st : AS) (m : Sem α) (st' : AS) (I : Wd → α → Prop) : Prop := ∀ W h tk, Rep c W st h → ∀ Q : α → Shared → Prop, To c W st' I Q → wpAny c.M c.A m Q never (c.sh h tk)
theorem To.up {w : World} {α : Type} {c : Act w} {W W1 : Wd} {st : AS} {I : Wd → α → Prop} {Q : α → Shared → Prop} (k : To c W st I Q) (l : W.le W1) : To c W1 st I Q := fun W' v h tk l' R i => k W' v h tk (l.trans l') R i
noncomputable def Iv {w : World} (c : Act w) (p : PV) (W : Wd) (v : Value) : Prop := Is w (W.fact c.F) W.ms p v
noncomputable def Il {w : World} (c : Act w) (p : List PV) (W : Wd) (v : List Value) : Prop := IsL w (W.fact c.F) W.ms p v
inductive AF where
  | next | ret (p : PV) | brk | cont
inductive FlIs (w : World) (F : Addr → Obj → Prop) (ms : List Addr) : AF → Flow → Prop
  | next : FlIs w F ms .next .next
  | ret {p v} : Is w F ms p v → FlIs w F ms (.ret p) (.ret v)
  | brk : FlIs w F ms .brk .brk
  | cont : FlIs w F ms .cont .cont
noncomputable def Ifl {w : World} (c : Act w) (f : AF) (W : Wd) (v : Flow) : Prop := FlIs w (W.fact c.F) W.ms f v
noncomputable def Ev {w : World} (c : Act w) (e : Expr) (st : AS) (p : PV) (st' : AS) : Prop := Rn c st (eval e c.env) st' (Iv c p)
noncomputable def EvL {w : World} (c : Act w) (es : List Expr) (st : AS) (ps : List PV) (st' : AS) : Prop := ∀ pos, Rn c st (spliced (backTo pos (starEach es c.env))) st' (Il c ps)
noncomputable def Ts {w : World} (c : Act w) (e : Expr) (st : AS) (b : Bool) (st' : AS) : Prop := Rn c st (isTrue e c.env (eval e c.env)) st' (fun _ b' => b' = b)
noncomputable def Ex1 {w : World} (c : Act w) (s : Stmt) (st : AS) (f : AF) (st' : AS) : Prop := Rn c st (exec s c.env) st' (Ifl c f)
noncomputable def Exs {w : World} (c : Act w) (s : List Stmt) (st : AS) (f : AF) (st' : AS) : Prop := Rn c st (execs s c.env) st' (Ifl c f)
/-- an operation of two values -/
noncomputable def Opd {w : World} (c : Act w) (st : AS) (p q : PV) (f : Value → Value → Sem Value) (r : PV) (st' : AS) : Prop := ∀ W h tk a b, Rep c W st h → Iv c p W a → Iv c q W b → ∀ Q : Value → Shared → Prop, To c W st' (Iv c r) Q → wpAny c.M c.A (f a b) Q never (c.sh h tk)
end

end
noncomputable section
noncomputable section
section
variable {w : World} {F : Addr → Obj → Prop} {ms : List Addr} {v : Value}
theorem Is.int_inv {z : Int} (i : Is w F ms (.int z) v) : ∃ t, v = .int z t := by cases i; exact ⟨_, rfl⟩
theorem Is.none_inv (i : Is w F ms .none v) : v = .none := by cases i; rfl
theorem Is.glob_eq {u : Value} (i : Is w F ms (.glob u) v) : v = u := by cases i; rfl
theorem Is.tup_inv {l : List PV} (i : Is w F ms (.tup l) v) : ∃ a n vs, v = .ref a ∧ F a (tupOf vs n) ∧ IsL w F ms l vs := by cases i with | tup h l => exact ⟨_, _, _, rfl, h, l⟩
theorem Is.list_inv {l : List PV} (i : Is w F ms (.list l) v) : ∃ a n vs, v = .ref a ∧ F a (PySem.W.listOf (List.toArray vs) n) ∧ IsL w F ms l vs := by cases i with | list h l => exact ⟨_, _, _, rfl, h, l⟩
theorem Is.seq_inv {k : Nat} {f : Nat → PV} (i : Is w F ms (.seq k f) v) : ∃ a n vs, v = .ref a ∧ F a (PySem.W.listOf (List.toArray vs) n) ∧ vs.length = k ∧ ∀ (j : Nat) u, vs[j]? = some u → Is w F ms (f j) u := by cases i with | seq h e l => exact ⟨_, _, _, rfl, h, e, l⟩
theorem Is.inst_inv {C : Addr} {fs : List (Str × PV)} (i : Is w F ms (.inst C fs) v) : ∃ a d es, v = .ref a ∧ F a (instObj C d) ∧ F d (dictOf es es.length) ∧ IsD w F ms fs es := by cases i with | inst h h2 l => exact ⟨_, _, _, rfl, h, h2, l⟩
theorem Is.mob_inv {C : Addr} {j : Nat} (i : Is w F ms (.mob C j) v) : ∃ a d, v = .ref a ∧ F a (instObj C d) ∧ ms[j]? = some d := by cases i with | mob h h2 => exact ⟨_, _, rfl, h, h2⟩
theorem Is.cell_inv {j : Nat} (i : Is w F ms (.cell j) v) : ∃ a, v = .ref a ∧ ms[j]? = some a := by cases i with | cell h => exact ⟨_, rfl, h⟩
theorem IsL.nil_inv {vs : List Value} (h : IsL w F ms [] vs) : vs = [] := by cases h; rfl
theorem IsL.cons_inv {p : PV} {l : List PV} {vs : List Value} (h : IsL w F ms (p :: l) vs) : ∃ v vs', vs = v :: vs' ∧ Is w F ms p v ∧ IsL w F ms l vs' := by cases h with | cons i l => exact ⟨_, _, rfl, i, l⟩
theorem IsL.one_inv {p : PV} {vs : List Value} (h : IsL w F ms [p] vs) : ∃ v, vs = [v] ∧ Is w F ms p v := by
  obtain ⟨v, vs', rfl, i, l⟩ := h.cons_inv
  rw [l.nil_inv]; exact ⟨v, rfl, i⟩
theorem IsL.two_inv {p q : PV} {vs : List Value} (h : IsL w F ms [p, q] vs) : ∃ v u, vs = [v, u] ∧ Is w F ms p v ∧ Is w F ms q u := by
  obtain ⟨v, vs', rfl, i, l⟩ := h.cons_inv
  obtain ⟨u, rfl, j⟩ := l.one_inv
  exact ⟨v, u, rfl, i, j⟩
theorem IsM.list_inv {l : List PV} {o : Obj} (i : IsM w F ms (.list l) o) : ∃ vs n, o = PySem.W.listOf (List.toArray vs) n ∧ IsL w F ms l vs := by cases i with | list l => exact ⟨_, _, rfl, l⟩
theorem IsM.seq_inv {k : Nat} {f : Nat → PV} {o : Obj} (i : IsM w F ms (.seq k f) o) : ∃ vs n, o = PySem.W.listOf (List.toArray vs) n ∧ vs.length = k ∧ ∀ (j : Nat) u, vs[j]? = some u → Is w F ms (f j) u := by cases i with | seq e l => exact ⟨_, _, rfl, e, l⟩
theorem IsM.dict_inv {fs : List (Str × PV)} {o : Obj} (i : IsM w F ms (.dict fs) o) : ∃ es, o = dictOf es es.length ∧ IsD w F ms fs es := by cases i with | dict l => exact ⟨_, rfl, l⟩
end
theorem Iv.up {w : World} {c : Act w} {p : PV} {W W' : Wd} {v : Value} (i : Iv c p W v) (l : W.le W') : Iv c p W' v := Is.up l i
theorem Il.up {w : World} {c : Act w} {p : List PV} {W W' : Wd} {v : List Value} (i : Il c p W v) (l : W.le W') : Il c p W' v := IsL.up l i

/-! results with their proofs -/
inductive Ora where
  | b (b : Bool) | call (r : PV) (cells : List MO) | st (f : AF) (st : AS) | ev (p : PV) (st : AS) | fz (st : AS) | cx (p : PV) (st : AS)
noncomputable def AllP (l : List Prop) : Prop := List.rec True (fun p _ ih => p ∧ ih) l
theorem AllP.append {a b : List Prop} (h : AllP (a ++ b)) : AllP a ∧ AllP b := by
  induction a with
  | nil => exact ⟨trivial, h⟩
  | cons p r ih => exact ⟨⟨h.1, (ih h.2).1⟩, (ih h.2).2⟩
structure Out {α : Type} (P : α → AS → Prop) where
  val : α
  st : AS
  ora : List Ora
  obl : List Prop
  pf : AllP obl → P val st
noncomputable abbrev Res {α : Type} (P : α → AS → Prop) := Option (Out P)
section
variable {α β : Type} {P : α → AS → Prop} {Q : β → AS → Prop}
noncomputable def ret (a : α) (st : AS) (o : List Ora) (h : P a st) : Res P := some ⟨a, st, o, [], fun _ => h⟩
noncomputable def owe (a : α) (st : AS) (o : List Ora) (ps : List Prop) (h : AllP ps → P a st) : Res P := some ⟨a, st, o, ps, h⟩
noncomputable def Res.bind (r : Res P) (k : ∀ a st, List Ora → Res fun b st' => P a st → Q b st') : Res Q :=
  Option.rec (motive := fun _ => Res Q) none (fun x => Out.rec (motive := fun _ => Res Q) (fun a st o ob pf => Option.rec (motive := fun _ => Res Q) none (fun y => Out.rec (motive := fun _ => Res Q) (fun b st' o' ob' pf' =>
    some ⟨b, st', o', ob ++ ob', fun h => (show P a st → Q b st' from pf' (AllP.append h).2) (pf (AllP.append h).1)⟩) y) (k a st o)) x) r
noncomputable def gd (b : Bool) (k : b = true → Res P) : Res P := Bool.rec (motive := fun b' => (b' = true → Res P) → Res P) (fun _ => none) (fun k => k rfl) b k
noncomputable def opc {γ : Type} (x : Option γ) (k0 : x = none → Res P) (k : ∀ a, x = some a → Res P) : Res P := Option.rec (motive := fun x' => (x' = none → Res P) → (∀ a, x' = some a → Res P) → Res P) (fun k0 _ => k0 rfl) (fun a _ k => k a rfl) x k0 k
noncomputable def opt {γ : Type} (x : Option γ) (k : ∀ a, x = some a → Res P) : Res P := opc x (fun _ => none) k
/-- whether a value is true: a decision of the oracle where it is not written -/
noncomputable def Tru (p : PV) (b : Bool) : Prop := p = .bool b ∨ p = .sbool b
noncomputable def truR (p : PV) (st : AS) (o : List Ora) : Res fun b st' => Tru p b ∧ st' = st := match p with
  | .bool b => ret b st o ⟨.inl rfl, rfl⟩
  | .sbool b => match o with
    | .b d :: o' => owe d st o' [b = d] fun h => ⟨.inr (congrArg PV.sbool h.1), rfl⟩
    | _ => none
  | _ => none
end
/-- what a run knows of its act -/
structure Cx (w : World) where
  g : Gl w
  n : Nat
  sc : Scope
  fn : Bool
  top : Bool
structure Cx.At {w : World} (x : Cx w) (c : Act w) : Prop where
  gl : c.toGl = x.g
  n : c.n = x.n
  sc : c.cs = x.sc
  fn : x.fn = true → c.env.locals = c.L
  top : x.top = true → c.A.frames = some [c.env] ∧ c.env.frame = some c.L
noncomputable abbrev KK (w : World) : Frag := hd.heap_39 w.params
section
variable {w : World} (x : Cx w)
noncomputable def EvG (e : Expr) (st : AS) (p : PV) (st' : AS) : Prop := ∀ c, x.At c → Ev c e st p st'
noncomputable def EvLG (e : List Expr) (st : AS) (p : List PV) (st' : AS) : Prop := ∀ c, x.At c → EvL c e st p st'
noncomputable def TsG (e : Expr) (st : AS) (b : Bool) (st' : AS) : Prop := ∀ c, x.At c → Ts c e st b st'
noncomputable def Ex1G (s : Stmt) (st : AS) (f : AF) (st' : AS) : Prop := ∀ c, x.At c → Ex1 c s st f st'
noncomputable def ExsG (s : List Stmt) (st : AS) (f : AF) (st' : AS) : Prop := ∀ c, x.At c → Exs c s st f st'
noncomputable def OpG (f : Value → Value → Sem Value) (st : AS) (p q r : PV) (st' : AS) : Prop := ∀ c, x.At c → Opd c st p q f r st'
end
section
variable {w : World} {c : Act w} {st st1 st2 st3 : AS} {p q r : PV}
/-! names and constants -/
noncomputable def notDebug (x : Str) : Bool := !(x == ("__debug__" : Str))
noncomputable def notName (x : Str) : Bool := !strEq x "__name__"
noncomputable def isKind (sc : Scope) (x : Str) (k : NameKind) : Bool := match sc.names.lookup x with
  | some k' => k' == k
  | none => false
theorem isKind_of {sc : Scope} {x : Str} {k : NameKind} (h : isKind sc x k = true) : sc.names.lookup x = some k := by
  unfold isKind at h
  cases e : sc.names.lookup x with
  | none => rw [e] at h; cases h
  | some k' => rw [e] at h; exact congrArg some (eq_of_beq h)
noncomputable def isLocal (sc : Scope) (x : Str) : Bool := isKind sc x .local
theorem isLocal_of {sc : Scope} {x : Str} (h : isLocal sc x = true) : sc.names.lookup x = some .local := isKind_of h
noncomputable def isGlobal (sc : Scope) (x : Str) : Bool := isKind sc x .globalImplicit
theorem isGlobal_of {sc : Scope} {x : Str} (h : isGlobal sc x = true) : sc.names.lookup x = some .globalImplicit := isKind_of h
noncomputable def pvOf : Value → PV
  | .int z _ => .int z
  | .bool b => .bool b
  | .none => .none
  | .str s _ => .str s
  | v => .glob v
theorem pvOf_is {F : Addr → Obj → Prop} {ms : List Addr} {v : Value} (h : handedIn v = true) : Is w F ms (pvOf v) v := by
  cases v <;> first | exact .int | exact .bool | exact .none | exact .str | exact .glob h
theorem notDebug_of {x : Str} (h : notDebug x = true) : (x == ("__debug__" : Str)) = false := by
  cases e : x == ("__debug__" : Str) with
  | true => rw [notDebug, e] at h; cases h
  | false => rfl
theorem Ev_global {x : Str} {pos : Pos} {v : Value} (e : nsIn (KK w) mainGlobals x = some (some v)) (hv : handedIn v = true) (hx : isGlobal c.cs x = true) (hd : notDebug x = true) : Ev c (.Name x pos) st (pvOf v) st := fun W h tk ⟨m, cs, R⟩ Q k =>
  Name_function_global c.kind (isGlobal_of hx) (loadGlobal_global (env := c.env) (by rw [c.glob]; exact (topRead_of c.T).g.keeps R.fr.keep) (mg_of c.X (topRead_of c.T).g e) (k W v h tk .rfl ⟨m, cs, R⟩ (pvOf_is hv))) (notDebug_of hd)
theorem builtin_wp {x : Str} {pos : Pos} {v : Value} {h : Heap} {tk : Nat} {m : Str → Option Value} {E : Value → Shared → Prop} {Q : Value → Shared → Prop} (F : Fr c.H c.L h m) (e : nsIn (KK w) mainGlobals x = some none) (hb : bootBuiltins x = some v) (hn : notName x = true)
    (hx : isGlobal c.cs x = true) (hd : notDebug x = true) (k : Q v (c.sh h tk)) : wpAny c.M c.A (eval (.Name x pos) c.env) Q E (c.sh h tk) :=
  have T := topRead_of c.T
  have hn : x ≠ "__name__" := fun q => by rw [notName, strEq_iff.mpr q] at hn; cases hn
  Name_function_global c.kind (isGlobal_of hx) (loadGlobal_builtin (env := c.env) (by rw [c.glob]; exact T.g.keeps F.keep) (mg_none_of c.X T.g e) (by rw [c.blt]; exact T.b.keeps F.keep) ((T.builtins x hn).trans hb) k) (notDebug_of hd)
theorem Ev_builtin {x : Str} {pos : Pos} {v : Value} (e : nsIn (KK w) mainGlobals x = some none) (hb : bootBuiltins x = some v) (hn : notName x = true) (hv : handedIn v = true) (hx : isGlobal c.cs x = true)
    (hd : notDebug x = true) : Ev c (.Name x pos) st (pvOf v) st := fun W h tk ⟨m, cs, R⟩ Q k => builtin_wp R.fr e hb hn hx hd (k W v h tk .rfl ⟨m, cs, R⟩ (pvOf_is hv))
theorem Is.var_no {F : Addr → Obj → Prop} {ms : List Addr} {i : Nat} {v : Value} (h : Is w F ms (.var i) v) : False := by cases h
theorem Is.nsv_no {F : Addr → Obj → Prop} {ms : List Addr} {i : Nat} {v : Value} (h : Is w F ms (.nsv i) v) : False := by cases h
theorem Ev_frame {x : Str} {pos : Pos} (hl : lk x st.loc = some q) (hE : c.env.locals = c.L) (hx : isLocal c.cs x = true) (hd : notDebug x = true) : Ev c (.Name x pos) st q st := fun W h tk ⟨m, cs, R⟩ Q k => by
  cases R.loc _ _ hl with
  | frame iv hv => exact wpAny_Name (wpAny_loadName_local c.kind (isLocal_of hx) (by rw [hE]; exact R.fr.ns) hv (k W _ h tk .rfl ⟨m, cs, R⟩ iv)) (notDebug_of hd)
  | var n => exact absurd (isLocal_of hx) n
  | nsv n => exact absurd hE n
theorem var_at {x : Str} {i : Nat} {W : Wd} {h : Heap} {m cs} (R : RepX c W st h m cs) (hl : lk x st.loc = some (.var i)) : ∃ a, c.env.cells.lookup x = some a ∧ W.ms[i]? = some a := by
  generalize e : PV.var i = p at hl
  cases R.loc _ _ hl with
  | frame iv => cases e; exact iv.var_no.elim
  | var n e1 e2 => cases e; exact ⟨_, e1, e2⟩
  | nsv n => cases e
theorem nsv_at {x : Str} {i : Nat} {W : Wd} {h : Heap} {m cs} (R : RepX c W st h m cs) (hl : lk x st.loc = some (.nsv i)) : W.ms[i]? = some c.env.locals := by
  generalize e : PV.nsv i = p at hl
  cases R.loc _ _ hl with
  | frame iv => cases e; exact iv.nsv_no.elim
  | var n e1 e2 => cases e
  | nsv n e1 => cases e; exact e1
theorem Ev_var {x : Str} {pos : Pos} {i : Nat} (hl : lk x st.loc = some (.var i)) (hc : st.cells[i]? = some (.var q)) (hx : isKind c.cs x .cell = true) (hd : notDebug x = true) : Ev c (.Name x pos) st q st := fun W h tk ⟨m, cs, R⟩ Q k => by
  obtain ⟨a, e1, e2⟩ := var_at R hl
  obtain ⟨o, _, ho, im⟩ := R.cellAt hc e2
  cases im with
  | var hd' iv => exact wpAny_Name (wpAny_loadName_cell c.kind (isKind_of hx) e1 ⟨o, ho, hd'⟩ (k W _ h tk .rfl ⟨m, cs, R⟩ iv)) (notDebug_of hd)
theorem Ev_nsv {x : Str} {pos : Pos} {i : Nat} (hl : lk x st.loc = some (.nsv i)) (hc : st.cells[i]? = some (.ns x q)) (hx : isLocal c.cs x = true) (hd : notDebug x = true) : Ev c (.Name x pos) st q st := fun W h tk ⟨m, cs, R⟩ Q k => by
  obtain ⟨o, _, ho, im⟩ := R.cellAt hc (nsv_at R hl)
  cases im with
  | ns hN hm iv => exact wpAny_Name (wpAny_loadName_local c.kind (isLocal_of hx) (hN.ns ho) hm (k W _ h tk .rfl ⟨m, cs, R⟩ iv)) (notDebug_of hd)
theorem Ev_int {i : Int} {k : Nat} {pos : Pos} : Ev c (.Constant (.int i) k pos) st (.int i) st := fun W h tk R Q k => wpAny_Constant_int (k W _ h _ .rfl R .int)
theorem Ev_none {k : Nat} {pos : Pos} : Ev c (.Constant .none k pos) st .none st := fun W h tk R Q k => wpAny_Constant_none (k W _ h _ .rfl R .none)
theorem Ev_bool {b : Bool} {k : Nat} {pos : Pos} : Ev c (.Constant (.bool b) k pos) st (.bool b) st := fun W h tk R Q k => Constant_bool (k W _ h _ .rfl R .bool)
theorem Ev_str {s : Str} {k : Nat} {pos : Pos} : Ev c (.Constant (.str s) k pos) st (.str s) st := fun W h tk R Q k => wpAny_Constant_str (k W _ h _ .rfl R .str)

/-! lists of expressions -/
noncomputable def notStar : Expr → Bool
  | .Starred .. => false
  | _ => true
theorem starEach_cons {e : Expr} {es : List Expr} {env : Env} (h : notStar e = true) : starEach (e :: es) env = (false, eval e env) :: starEach es env := by
  cases e <;> first | rfl | cases h
theorem EvL_nil : EvL c [] st [] st := fun pos W h tk R Q k => args_nil (k W _ h _ .rfl R .nil)
theorem EvL_cons {e : Expr} {es : List Expr} {ps : List PV} (hs : notStar e = true) (h1 : Ev c e st p st1) (h2 : EvL c es st1 ps st2) : EvL c (e :: es) st (p :: ps) st2 := fun pos W h tk R Q k =>
  args_cons (h1 W h tk R _ fun W1 v h1' tk1 l1 R1 i1 => h2 pos W1 h1' tk1 R1 _ fun W2 vs h2' tk2 l2 R2 i2 => k W2 _ h2' tk2 (l1.trans l2) R2 (.cons (i1.up l2) i2)) (starEach_cons hs)
theorem size_ok {k : Nat} (h : k ≤ 1000) : k ≤ sizeLine := by rw [sizeLine_eq]; exact Nat.le_trans h (by decide)
theorem lt_ne {l : List (Addr × Obj)} {D : Addr} (lt : ∀ p ∈ l, p.1 < D) : ∀ p ∈ l, p.1 ≠ D := fun p hp => Nat.ne_of_lt (lt p hp)
theorem Ev_tuple {es : List Expr} {ps : List PV} {k : Nat} {pos : Pos} (h : EvL c es st ps st1) (hn : Nat.ble ps.length 1000 = true) : Ev c (.Tuple es k pos) st (.tup ps) st1 := fun W g tk R Q kk =>
  Tuple_ (h pos W g tk R _ fun W1 vs h1 tk1 l1 ⟨m, cs, R1⟩ i1 =>
    kup_newTuple R1.fr R1.news (fun D h' F' N' lt =>
      have ⟨R2, l2⟩ := R1.grow (tl := [(D, tupOf vs 0)]) F' N' (fun p hp => by rw [List.mem_singleton.mp hp]; exact R1.above lt)
      kk _ _ h' _ (l1.trans l2) ⟨m, cs, R2⟩ (.tup (.inr (.head _)) (i1.up l2))) (size_ok (by rw [← i1.length]; exact Nat.le_of_ble_eq_true hn)))
theorem msnoc {l : List Addr} {I : Addr} (i : Nat) (a : Addr) (q : l[i]? = some a) : (l ++ [I])[i]? = some a := (List.getElem?_append_left (List.getElem?_eq_some_iff.mp q).1).trans q
/-- a new list is a cell -/
theorem newList_wp {ps : List PV} {vs : List Value} {W : Wd} {h : Heap} {tk : Nat} {Q : Value → Shared → Prop} (R : Rep c W st h) (i : Il c ps W vs) (hn : vs.length ≤ 1000) (k : To c W { st with cells := st.cells ++ [.list ps] } (Iv c (.cell st.cells.length)) Q) : wpAny c.M c.A (newList vs) Q never (c.sh h tk) := by
  obtain ⟨m, cs, R⟩ := R
  refine newList_K R.fr R.news (fun D h' F' N' lt => ?_) (size_ok hn)
  obtain ⟨R2, l2⟩ := R.snoc F' N' (lt_ne lt) (mo := .list ps) (.list (n := 0) (IsL.mono (fun a o q => q) msnoc i))
  exact k _ _ h' _ l2 ⟨m, _, R2⟩ (.cell R.last)
theorem Ev_list {es : List Expr} {ps : List PV} {pos : Pos} (h : EvL c es st ps st1) (hn : Nat.ble ps.length 1000 = true) : Ev c (.List es pos) st (.cell st1.cells.length) { st1 with cells := st1.cells ++ [.list ps] } := fun W g tk R Q kk =>
  List_ (h pos W g tk R _ fun W1 vs h1 tk1 l1 R1 i1 => newList_wp R1 i1 (by rw [← IsL.length i1]; exact Nat.le_of_ble_eq_true hn) (kk.up l1))
end
section
variable {w : World} (x : Cx w)
noncomputable def nameC (nm : Str) (st : AS) (o : List Ora) : Res fun p st' => ∀ pos, EvG x (.Name nm pos) st p st' :=
  gd (notDebug nm) fun hd => opc (lk nm st.loc)
    (fun _ => gd (isGlobal x.sc nm) fun hg => opt (nsIn (KK w) mainGlobals nm) fun v? e => match v?, e with
      | .none, e => gd (notName nm) fun hn => opt (bootBuiltins nm) fun v hb => gd (handedIn v) fun hv => ret (pvOf v) st o fun pos c hc => Ev_builtin e hb hn hv (hc.sc ▸ hg) hd
      | .some v, e => gd (handedIn v) fun hv => ret (pvOf v) st o fun pos c hc => Ev_global e hv (hc.sc ▸ hg) hd)
    (fun q hl => opc (cond (x.fn && isLocal x.sc nm) (some ()) none) (fun _ => match q, hl with
      | .var i, hl => opt (st.cells[i]?) fun mo hm => match mo, hm with
        | .var q, hm => gd (isKind x.sc nm .cell) fun hk => ret q st o fun pos c hc => Ev_var hl hm (hc.sc ▸ hk) hd
        | _, _ => none
      | .nsv i, hl => opt (st.cells[i]?) fun mo hm => match mo, hm with
        | .ns y q, hm => gd (strEq nm y) fun hy => gd (isLocal x.sc nm) fun hk => ret q st o fun pos c hc => Ev_nsv hl (by rw [hm, strEq_iff.mp hy]) (hc.sc ▸ hk) hd
        | _, _ => none
      | _, _ => none) fun _ _ => gd x.fn fun hf => gd (isLocal x.sc nm) fun hk => ret q st o fun pos c hc => Ev_frame hl (hc.fn hf) (hc.sc ▸ hk) hd)
end
end

end
noncomputable section
noncomputable section
section
variable {w : World} {c : Act w} {st st1 st2 st3 : AS} {p q r : PV}
theorem Op_int {f : Value → Value → Sem Value} {x y z : Int} (H : ∀ t u h tk (Q : Value → Shared → Prop), Q (.int z tk) (c.sh h (tk + 1)) → wpAny c.M c.A (f (.int x t) (.int y u)) Q never (c.sh h tk)) : Opd c st (.int x) (.int y) f (.int z) st := fun W h tk a b R i j Q k => by
  obtain ⟨t, rfl⟩ := i.int_inv
  obtain ⟨u, rfl⟩ := j.int_inv
  exact H t u h tk Q (k W _ h _ .rfl R .int)
theorem Op_ints {f : Value → Value → Sem Value} {x y : Int} {b : Bool} (H : ∀ t u h tk (Q : Value → Shared → Prop), Q (.bool b) (c.sh h tk) → wpAny c.M c.A (f (.int x t) (.int y u)) Q never (c.sh h tk)) : Opd c st (.int x) (.int y) f (.sbool b) st := fun W h tk a b R i j Q k => by
  obtain ⟨t, rfl⟩ := i.int_inv
  obtain ⟨u, rfl⟩ := j.int_inv
  exact H t u h tk Q (k W _ h _ .rfl R .sbool)
/-- some number -/
noncomputable def num? : PV → Bool
  | .int _ | .anyi => true
  | _ => false
theorem Is.num {F : Addr → Obj → Prop} {ms : List Addr} {v : Value} (i : Is w F ms p v) (h : num? p = true) : ∃ z t, v = .int z t := by
  cases i <;> first | exact ⟨_, _, rfl⟩ | cases h
theorem Bin_addA (hp : num? p = true) (hq : num? q = true) : Opd c st p q (binaryOp .Add) .anyi st := fun W h tk a b R i j Q k => by
  obtain ⟨x, t, rfl⟩ := Is.num i hp
  obtain ⟨y, u, rfl⟩ := Is.num j hq
  exact add_int (k W _ h _ .rfl R .anyi)
/-- nothing that is None -/
noncomputable def some? : PV → Bool
  | .none | .any | .glob _ => false
  | _ => true
theorem Is.notNone {F : Addr → Obj → Prop} {ms : List Addr} {v : Value} (i : Is w F ms p v) (h : some? p = true) : v ≠ .none := by
  intro e
  subst e
  cases i <;> cases h
theorem Cmp_is (hs : some? p = true) : Opd c st p .none (compareOp .Is) (.bool false) st := fun W h tk _ _ R i j Q k => by
  rw [Is.none_inv j]
  exact is_none_ne (Is.notNone i hs) (k W _ h _ .rfl R .bool)
theorem Cmp_isnot (hs : some? p = true) : Opd c st p .none (compareOp .IsNot) (.bool true) st := fun W h tk _ _ R i j Q k => by
  rw [Is.none_inv j]
  exact isnot_none_ne (Is.notNone i hs) (k W _ h _ .rfl R .bool)
theorem Cmp_is_n : Opd c st .none .none (compareOp .Is) (.bool true) st := fun W h tk _ _ R i j Q k => by
  rw [Is.none_inv i, Is.none_inv j]
  exact is_none_none (k W _ h _ .rfl R .bool)
theorem Cmp_isnot_n : Opd c st .none .none (compareOp .IsNot) (.bool false) st := fun W h tk _ _ R i j Q k => by
  rw [Is.none_inv i, Is.none_inv j]
  exact isnot_none_none (k W _ h _ .rfl R .bool)
theorem cLine_ok (c : Act w) : c.A.units < cLine := by rw [cLine_is]; exact Nat.lt_trans c.units (by decide)
theorem Cmp_lt_spot {x y u v : Int} (hu : (u == 0) = true) (hv : (v == 0) = true) : Opd c st (.tup [.int x, .int u]) (.tup [.int y, .int v]) (compareOp .Lt) (.sbool (decide (x < y))) st := fun W h tk _ _ ⟨m, cs, R⟩ i j Q k => by
  obtain rfl := eq_of_beq hu
  obtain rfl := eq_of_beq hv
  obtain ⟨a, n, vs, rfl, f1, l1⟩ := Is.tup_inv i
  obtain ⟨b, n', us, rfl, f2, l2⟩ := Is.tup_inv j
  obtain ⟨_, _, rfl, i1, i2⟩ := l1.two_inv
  obtain ⟨_, _, rfl, j1, j2⟩ := l2.two_inv
  obtain ⟨_, rfl⟩ := i1.int_inv
  obtain ⟨_, rfl⟩ := i2.int_inv
  obtain ⟨_, rfl⟩ := j1.int_inv
  obtain ⟨_, rfl⟩ := j2.int_inv
  exact lt_spots (R.at f1) (R.at f2) (cLine_ok c) (k W _ h _ .rfl ⟨m, cs, R⟩ .sbool)
/-! items -/
inductive Its where
  | li (l : List PV) | sq (k : Nat) (f : Nat → PV)
noncomputable def Its.at? : Its → Nat → Option PV
  | .li l, j => l[j]?
  | .sq k f, j => if j < k then some (f j) else none
theorem Its.at_sq {k : Nat} {f : Nat → PV} {j : Nat} (h : j < k) : (Its.sq k f).at? j = some (f j) := if_pos h
noncomputable def Its.len : Its → Nat
  | .li l => l.length
  | .sq k _ => k
noncomputable def itsM : MO → Option Its
  | .list l => some (.li l)
  | .seq k f => some (.sq k f)
  | _ => none
noncomputable def itsOf (st : AS) : PV → Option Its
  | .list l => some (.li l)
  | .seq k f => some (.sq k f)
  | .cell i => Option.rec none itsM (st.cells[i]?)
  | _ => none
/-- the values of a list -/
noncomputable def ItsAre (w : World) (F : Addr → Obj → Prop) (ms : List Addr) (t : Its) (vs : List Value) : Prop := vs.length = t.len ∧ ∀ (j : Nat) q, t.at? j = some q → ∃ u, vs[j]? = some u ∧ Is w F ms q u
theorem ItsAre.li {F : Addr → Obj → Prop} {ms : List Addr} {l : List PV} {vs : List Value} (h : IsL w F ms l vs) : ItsAre w F ms (.li l) vs := ⟨h.length.symm, fun _ _ e => h.get e⟩
theorem ItsAre.sq {F : Addr → Obj → Prop} {ms : List Addr} {k : Nat} {f : Nat → PV} {vs : List Value} (e : vs.length = k) (h : ∀ (j : Nat) v, vs[j]? = some v → Is w F ms (f j) v) : ItsAre w F ms (.sq k f) vs := ⟨e, fun j q hq => by
  by_cases hj : j < k
  · rw [Its.at_sq hj] at hq
    have hx : vs[j]? = some (vs[j]'(e ▸ hj)) := List.getElem?_eq_getElem _
    exact ⟨_, hx, Option.some.inj hq ▸ h j _ hx⟩
  · rw [show (Its.sq k f).at? j = none from if_neg hj] at hq; cases hq⟩
theorem its_at {W : Wd} {h : Heap} {m cs} (R : RepX c W st h m cs) {v : Value} {t : Its} (e : itsOf st p = some t) (i : Iv c p W v) :
    ∃ a n vs, v = .ref a ∧ h.get? a = some (PySem.W.listOf (List.toArray vs) n) ∧ ItsAre w (W.fact c.F) W.ms t vs := by
  cases p <;> first
    | (cases e; done)
    | (obtain ⟨a, n, vs, rfl, h1, l⟩ := Is.list_inv i
       cases e
       exact ⟨a, n, vs, rfl, R.at h1, .li l⟩)
    | (obtain ⟨a, n, vs, rfl, h1, e1, l⟩ := Is.seq_inv i
       cases e
       exact ⟨a, n, vs, rfl, R.at h1, .sq e1 l⟩)
    | skip
  rename_i j
  obtain ⟨a, rfl, h1⟩ := Is.cell_inv i
  have e : (Option.rec none itsM (st.cells[j]?) : Option Its) = some t := e
  cases hc : st.cells[j]? with
  | none => rw [hc] at e; cases e
  | some mo =>
    obtain ⟨o, _, ho, im⟩ := R.cellAt hc h1
    have e : itsM mo = some t := by rw [hc] at e; exact e
    cases mo <;> first
      | (cases e; done)
      | (obtain ⟨vs, n, rfl, l⟩ := im.list_inv
         cases e
         exact ⟨a, n, vs, rfl, ho, .li l⟩)
      | (obtain ⟨vs, n, rfl, e1, l⟩ := im.seq_inv
         cases e
         exact ⟨a, n, vs, rfl, ho, .sq e1 l⟩)
theorem Cmp_len {s t : Its} (ea : itsOf st p = some s) (eb : itsOf st q = some t) (ne : s.len ≠ t.len) : Opd c st p q (compareOp .Eq) (.bool false) st := fun W h tk _ _ ⟨m, cs, R⟩ i j Q k => by
  obtain ⟨x, n1, vs, rfl, hx, h1, _⟩ := its_at R ea i
  obtain ⟨y, n2, us, rfl, hy, h2, _⟩ := its_at R eb j
  exact PySem.SeqAt.eq_list_lengthsAt (isL hx) (isL hy) (bne_iff_ne.mpr (by rw [List.size_toArray, List.size_toArray, h1, h2]; exact ne)) (cLine_ok c) (k W _ h _ .rfl ⟨m, cs, R⟩ .bool)
theorem Ev_bin {l e : Expr} {op : Operator} {pos : Pos} (h1 : Ev c l st p st1) (h2 : Ev c e st1 q st2) (h3 : Opd c st2 p q (binaryOp op) r st3) : Ev c (.BinOp l op e pos) st r st3 := fun W h tk R Q k =>
  wpAny_BinOp (h1 W h tk R _ fun W1 a h1' tk1 l1 R1 i1 => h2 W1 h1' tk1 R1 _ fun W2 b h2' tk2 l2 R2 i2 => h3 W2 h2' tk2 a b R2 (i1.up l2) i2 Q (k.up (l1.trans l2)))
theorem Ev_cmp {l e : Expr} {op : CmpOp} {pos : Pos} (hm : behindInMarks op e = false) (h1 : Ev c l st p st1) (h2 : Ev c e st1 q st2) (h3 : Opd c st2 p q (compareOp op) r st3) : Ev c (.Compare l [op] [e] pos) st r st3 := fun W h tk R Q k =>
  wpAny_Compare1 (h1 W h tk R _ fun W1 a h1' tk1 l1 R1 i1 => h2 W1 h1' tk1 R1 _ fun W2 b h2' tk2 l2 R2 i2 => h3 W2 h2' tk2 a b R2 (i1.up l2) i2 Q (k.up (l1.trans l2))) hm
theorem Ev_neg {e : Expr} {pos : Pos} {z : Int} (h : Ev c e st (.int z) st1) : Ev c (.UnaryOp .USub e pos) st (.int (-z)) st1 := fun W g tk R Q k =>
  UnaryOp_ (h W g tk R _ fun W1 v h1 tk1 l1 R1 i1 => by obtain ⟨t, rfl⟩ := i1.int_inv; exact neg_int (k W1 _ h1 _ l1 R1 .int))
/-! tests -/
theorem Tru.wp {F : Addr → Obj → Prop} {ms : List Addr} {M : Model} {A : Around} {v : Value} {b : Bool} {s : Shared} {Q : Bool → Shared → Prop} {E} (i : Is w F ms p v) (t : Tru p b) (k : Q b s) : wpAny M A (truthy v) Q E s := by
  rcases t with rfl | rfl <;> (cases i; exact wpAny_truthy_bool k)
theorem Ts_cmp {l e : Expr} {op : CmpOp} {pos : Pos} {b : Bool} (hm : behindInMarks op e = false) (h1 : Ev c l st p st1) (h2 : Ev c e st1 q st2) (h3 : Opd c st2 p q (compareOp op) r st3) (ht : Tru r b) : Ts c (.Compare l [op] [e] pos) st b st3 := fun W h tk R Q k =>
  wpAny_isTrue_Compare1 (h1 W h tk R _ fun W1 a h1' tk1 l1 R1 i1 => h2 W1 h1' tk1 R1 _ fun W2 b h2' tk2 l2 R2 i2 => h3 W2 h2' tk2 a b R2 (i1.up l2) i2 _ fun W3 v h3' tk3 l3 R3 i3 => ht.wp i3 (k W3 _ h3' tk3 ((l1.trans l2).trans l3) R3 rfl)) hm
noncomputable def plainTest : Expr → Bool
  | .UnaryOp .Not .. | .BoolOp .. | .IfExp .. | .Compare .. => false
  | _ => true
theorem isTrue_eq {e : Expr} {env : Env} {whole : Sem Value} (h : plainTest e = true) : isTrue e env whole = (do let v ← whole; standAt e.pos; holding [v] (truthy v)) := by
  cases e <;> first | rfl | (cases h; done) | (rename_i op _ _; cases op <;> first | rfl | cases h)
theorem Ts_plain {e : Expr} {b : Bool} (hp : plainTest e = true) (h : Ev c e st p st1) (ht : Tru p b) : Ts c e st b st1 := fun W g tk R Q k =>
  isTrue_plain (h W g tk R _ fun W1 v h1 tk1 l1 R1 i1 => ht.wp i1 (k W1 _ h1 tk1 l1 R1 rfl)) (isTrue_eq hp)
theorem Ts_not {e : Expr} {b : Bool} {pos : Pos} (h : Ts c e st b st1) : Ts c (.UnaryOp .Not e pos) st (!b) st1 := fun W g tk R Q k =>
  isTrue_not (h W g tk R _ fun W1 b' h1 tk1 l1 R1 e => k W1 _ h1 tk1 l1 R1 (congrArg (!·) e))
theorem Ts_and_nil {pos : Pos} : Ts c (.BoolOp .And [] pos) st true st := fun W g tk R Q k => isTrue_and_nil (k W _ g tk .rfl R rfl)
theorem Ts_or_nil {pos : Pos} : Ts c (.BoolOp .Or [] pos) st false st := fun W g tk R Q k => isTrue_or_nil (k W _ g tk .rfl R rfl)
theorem Ts_and_no {e : Expr} {es : List Expr} {pos : Pos} (h : Ts c e st false st1) : Ts c (.BoolOp .And (e :: es) pos) st false st1 := fun W g tk R Q k =>
  isTrue_and (h W g tk R _ fun W1 b h1 tk1 l1 R1 e => by cases e; exact k W1 _ h1 tk1 l1 R1 rfl)
theorem Ts_and_yes {e : Expr} {es : List Expr} {pos : Pos} {b : Bool} (h : Ts c e st true st1) (h2 : Ts c (.BoolOp .And es pos) st1 b st2) : Ts c (.BoolOp .And (e :: es) pos) st b st2 := fun W g tk R Q k =>
  isTrue_and (h W g tk R _ fun W1 b h1 tk1 l1 R1 e => by cases e; exact h2 W1 h1 tk1 R1 _ (k.up l1))
theorem Ts_or_yes {e : Expr} {es : List Expr} {pos : Pos} (h : Ts c e st true st1) : Ts c (.BoolOp .Or (e :: es) pos) st true st1 := fun W g tk R Q k =>
  isTrue_or (h W g tk R _ fun W1 b h1 tk1 l1 R1 e => by cases e; exact k W1 _ h1 tk1 l1 R1 rfl)
theorem Ts_or_no {e : Expr} {es : List Expr} {pos : Pos} {b : Bool} (h : Ts c e st false st1) (h2 : Ts c (.BoolOp .Or es pos) st1 b st2) : Ts c (.BoolOp .Or (e :: es) pos) st b st2 := fun W g tk R Q k =>
  isTrue_or (h W g tk R _ fun W1 b h1 tk1 l1 R1 e => by cases e; exact h2 W1 h1 tk1 R1 _ (k.up l1))
/-! l op1 r1 op2 r2 -/
theorem Ts_chain_no {l e1 e2 : Expr} {op op2 : CmpOp} {pos : Pos} (hm : lastMarks [op, op2] [e1, e2] = false) (h1 : Ev c l st p st1) (h2 : Ev c e1 st1 q st2) (h3 : Opd c st2 p q (compareOp op) r st3) (ht : Tru r false) : Ts c (.Compare l [op, op2] [e1, e2] pos) st false st3 := fun W h tk R Q k =>
  isTrue_chain (h1 W h tk R _ fun W1 a h1' tk1 l1 R1 i1 => test_link (h2 W1 h1' tk1 R1 _ fun W2 b h2' tk2 l2 R2 i2 => h3 W2 h2' tk2 a b R2 (i1.up l2) i2 _ fun W3 v h3' tk3 l3 R3 i3 => ht.wp i3 (k W3 _ h3' tk3 ((l1.trans l2).trans l3) R3 rfl))) hm
theorem Ts_chain_yes {l e1 e2 : Expr} {op op2 : CmpOp} {pos : Pos} {b : Bool} {u v : PV} {st4 st5 : AS} (hm : lastMarks [op, op2] [e1, e2] = false) (h1 : Ev c l st p st1) (h2 : Ev c e1 st1 q st2) (h3 : Opd c st2 p q (compareOp op) u st3) (ht : Tru u true) (h4 : Ev c e2 st3 r st4) (h5 : Opd c st4 q r (compareOp op2) v st5) (ht2 : Tru v b) :
    Ts c (.Compare l [op, op2] [e1, e2] pos) st b st5 := fun W h tk R Q k =>
  isTrue_chain (h1 W h tk R _ fun W1 x h1' tk1 l1 R1 i1 => test_link (h2 W1 h1' tk1 R1 _ fun W2 y h2' tk2 l2 R2 i2 => h3 W2 h2' tk2 x y R2 (i1.up l2) i2 _ fun W3 z h3' tk3 l3 R3 i3 => ht.wp i3
    (show wpAny _ _ _ _ _ _ from test_last (h4 W3 h3' tk3 R3 _ fun W4 y2 h4' tk4 l4 R4 i4 => h5 W4 h4' tk4 y y2 R4 ((i2.up l3).up l4) i4 _ fun W5 z5 h5' tk5 l5 R5 i5 => ht2.wp i5 (k W5 _ h5' tk5 ((((l1.trans l2).trans l3).trans l4).trans l5) R5 rfl))))) hm
theorem Ev_chain_no {l e1 e2 : Expr} {op op2 : CmpOp} {pos : Pos} (hm : lastMarks [op, op2] [e1, e2] = false) (h1 : Ev c l st p st1) (h2 : Ev c e1 st1 q st2) (h3 : Opd c st2 p q (compareOp op) r st3) (ht : Tru r false) : Ev c (.Compare l [op, op2] [e1, e2] pos) st r st3 := fun W h tk R Q k =>
  Compare_chain (h1 W h tk R _ fun W1 a h1' tk1 l1 R1 i1 => chain_link (h2 W1 h1' tk1 R1 _ fun W2 b h2' tk2 l2 R2 i2 => h3 W2 h2' tk2 a b R2 (i1.up l2) i2 _ fun W3 v h3' tk3 l3 R3 i3 => ht.wp i3 (k W3 v h3' tk3 ((l1.trans l2).trans l3) R3 i3))) hm
theorem Ev_chain_yes {l e1 e2 : Expr} {op op2 : CmpOp} {pos : Pos} {u v : PV} {st4 st5 : AS} (hm : lastMarks [op, op2] [e1, e2] = false) (h1 : Ev c l st p st1) (h2 : Ev c e1 st1 q st2) (h3 : Opd c st2 p q (compareOp op) u st3) (ht : Tru u true) (h4 : Ev c e2 st3 r st4) (h5 : Opd c st4 q r (compareOp op2) v st5) :
    Ev c (.Compare l [op, op2] [e1, e2] pos) st v st5 := fun W h tk R Q k =>
  Compare_chain (h1 W h tk R _ fun W1 x h1' tk1 l1 R1 i1 => chain_link (h2 W1 h1' tk1 R1 _ fun W2 y h2' tk2 l2 R2 i2 => h3 W2 h2' tk2 x y R2 (i1.up l2) i2 _ fun W3 z h3' tk3 l3 R3 i3 => ht.wp i3
    (show wpAny _ _ _ _ _ _ from chain_last (h4 W3 h3' tk3 R3 _ fun W4 y2 h4' tk4 l4 R4 i4 => h5 W4 h4' tk4 y y2 R4 ((i2.up l3).up l4) i4 _ (k.up (((l1.trans l2).trans l3).trans l4)))))) hm
theorem Ev_if {t a b : Expr} {pos : Pos} (h : Ts c t st true st1) (h2 : Ev c a st1 p st2) : Ev c (.IfExp t a b pos) st p st2 := fun W g tk R Q k =>
  IfExp_ (h W g tk R _ fun W1 b h1 tk1 l1 R1 e => by cases e; exact h2 W1 h1 tk1 R1 _ (k.up l1))
theorem Ev_else {t a b : Expr} {pos : Pos} (h : Ts c t st false st1) (h2 : Ev c b st1 p st2) : Ev c (.IfExp t a b pos) st p st2 := fun W g tk R Q k =>
  IfExp_ (h W g tk R _ fun W1 b h1 tk1 l1 R1 e => by cases e; exact h2 W1 h1 tk1 R1 _ (k.up l1))
theorem Ev_bool1 {op : BoolOp} {e : Expr} {pos : Pos} (h : Ev c e st p st1) : Ev c (.BoolOp op [e] pos) st p st1 := fun W g tk R Q k => BoolOp_one (h W g tk R Q k)
theorem Ev_and_no {e e2 : Expr} {es : List Expr} {pos : Pos} (h : Ev c e st p st1) (ht : Tru p false) : Ev c (.BoolOp .And (e :: e2 :: es) pos) st p st1 := fun W g tk R Q k =>
  BoolOp_and (h W g tk R _ fun W1 v h1 tk1 l1 R1 i1 => ht.wp i1 (k W1 v h1 tk1 l1 R1 i1))
theorem Ev_and_yes {e e2 : Expr} {es : List Expr} {pos : Pos} (h : Ev c e st p st1) (ht : Tru p true) (h2 : Ev c (.BoolOp .And (e2 :: es) pos) st1 q st2) : Ev c (.BoolOp .And (e :: e2 :: es) pos) st q st2 := fun W g tk R Q k =>
  BoolOp_and (h W g tk R _ fun W1 v h1 tk1 l1 R1 i1 => ht.wp i1 (show wpAny _ _ _ _ _ _ from h2 W1 h1 tk1 R1 _ (k.up l1)))
theorem Ev_or_yes {e e2 : Expr} {es : List Expr} {pos : Pos} (h : Ev c e st p st1) (ht : Tru p true) : Ev c (.BoolOp .Or (e :: e2 :: es) pos) st p st1 := fun W g tk R Q k =>
  BoolOp_or (h W g tk R _ fun W1 v h1 tk1 l1 R1 i1 => ht.wp i1 (k W1 v h1 tk1 l1 R1 i1))
theorem Ev_or_no {e e2 : Expr} {es : List Expr} {pos : Pos} (h : Ev c e st p st1) (ht : Tru p false) (h2 : Ev c (.BoolOp .Or (e2 :: es) pos) st1 q st2) : Ev c (.BoolOp .Or (e :: e2 :: es) pos) st q st2 := fun W g tk R Q k =>
  BoolOp_or (h W g tk R _ fun W1 v h1 tk1 l1 R1 i1 => ht.wp i1 (show wpAny _ _ _ _ _ _ from h2 W1 h1 tk1 R1 _ (k.up l1)))
end
section
variable {w : World} (x : Cx w)
/-- an operation by the oracle -/
noncomputable def opF (f : Value → Value → Sem Value) (p q : PV) (st : AS) (o : List Ora) : Res fun r st' => OpG x f st p q r st' := match o with
  | .ev r st' :: o' => owe r st' o' [OpG x f st p q r st'] fun h => h.1
  | _ => none
noncomputable def opI (f : Value → Value → Sem Value) {a b z : Int} (st : AS) (o : List Ora) (ps : List Prop) (H : AllP ps → ∀ c : Act w, ∀ t u h tk (Q : Value → Shared → Prop), Q (.int z tk) (c.sh h (tk + 1)) → wpAny c.M c.A (f (.int a t) (.int b u)) Q never (c.sh h tk)) : Res fun r st' => OpG x f st (.int a) (.int b) r st' := owe (.int z) st o ps fun h c _ => Op_int (H h c)
noncomputable def opB (f : Value → Value → Sem Value) {a b : Int} {z : Bool} (st : AS) (o : List Ora) (H : ∀ c : Act w, ∀ t u h tk (Q : Value → Shared → Prop), Q (.bool z) (c.sh h tk) → wpAny c.M c.A (f (.int a t) (.int b u)) Q never (c.sh h tk)) : Res fun r st' => OpG x f st (.int a) (.int b) r st' := ret (.sbool z) st o fun c _ => Op_ints (H c)
noncomputable def binI (op : Operator) (a b : Int) (st : AS) (o : List Ora) : Res fun r st' => OpG x (binaryOp op) st (.int a) (.int b) r st' := match op with
  | .Add => opI x (binaryOp .Add) st o [] fun _ c t u h tk Q k => add_int k
  | .Sub => opI x (binaryOp .Sub) st o [] fun _ c t u h tk Q k => sub_int k
  | .Mult => opI x (binaryOp .Mult) st o [IntMulOk a b] fun e c t u h tk Q k => mul_int k e.1
  | .FloorDiv => opI x (binaryOp .FloorDiv) st o [b ≠ 0, Builtin.divisionGoesByPylong a b = false] fun e c t u h tk Q k => floordiv_int e.1 k (.inl e.2.1)
  | .Mod => opI x (binaryOp .Mod) st o [b ≠ 0] fun e c t u h tk Q k => mod_int e.1 k
  | op => opF x (binaryOp op) _ _ st o
noncomputable def binC (op : Operator) (p q : PV) (st : AS) (o : List Ora) : Res fun r st' => OpG x (binaryOp op) st p q r st' := match p, q with
  | .int a, .int b => binI x op a b st o
  | p, q => match op with
    | .Add => match h : num? p && num? q with
      | true => ret .anyi st o fun c _ => Bin_addA (Bool.and_eq_true _ _ ▸ h).1 (Bool.and_eq_true _ _ ▸ h).2
      | false => opF x (binaryOp .Add) p q st o
    | op => opF x (binaryOp op) p q st o
noncomputable def cmpI (op : CmpOp) (a b : Int) (st : AS) (o : List Ora) : Res fun r st' => OpG x (compareOp op) st (.int a) (.int b) r st' := match op with
  | .Lt => opB x (compareOp .Lt) st o fun c t u h tk Q k => lt_int k
  | .LtE => opB x (compareOp .LtE) st o fun c t u h tk Q k => le_int k
  | .Gt => opB x (compareOp .Gt) st o fun c t u h tk Q k => gt_int k
  | .GtE => opB x (compareOp .GtE) st o fun c t u h tk Q k => ge_int k
  | .Eq => opB x (compareOp .Eq) st o fun c t u h tk Q k => eq_int k
  | .NotEq => opB x (compareOp .NotEq) st o fun c t u h tk Q k => ne_int k
  | op => opF x (compareOp op) _ _ st o
noncomputable def cmpC (op : CmpOp) (p q : PV) (st : AS) (o : List Ora) : Res fun r st' => OpG x (compareOp op) st p q r st' := match p, q with
  | .int a, .int b => cmpI x op a b st o
  | .none, .none => match op with
    | .Is => ret (.bool true) st o fun c _ => Cmp_is_n
    | .IsNot => ret (.bool false) st o fun c _ => Cmp_isnot_n
    | _ => none
  | p, .none => gd (some? p) fun hs => match op with
    | .Is => ret (.bool false) st o fun c _ => Cmp_is hs
    | .IsNot => ret (.bool true) st o fun c _ => Cmp_isnot hs
    | _ => none
  | .tup [.int a, .int u], .tup [.int b, .int v] => match op with
    | .Lt => gd (u == 0) fun hu => gd (v == 0) fun hv => ret (.sbool (decide (a < b))) st o fun c _ => Cmp_lt_spot hu hv
    | op => opF x (compareOp op) _ _ st o
  | p, q => match op with
    | .Eq => match o with
      | .ev .. :: _ => opF x (compareOp .Eq) p q st o
      | o => opt (itsOf st p) fun s hs => opt (itsOf st q) fun t ht => owe (.bool false) st o [s.len ≠ t.len] fun e c _ => Cmp_len hs ht e.1
    | op => opF x (compareOp op) p q st o
end
end

end
noncomputable section
noncomputable section
section
variable {w : World} {c : Act w} {st st1 st2 st3 : AS} {p q r : PV}
/-! attributes -/
theorem isStr_str {x y : Str} {t : Tok} : (Value.str x t).isStr y = (x == y) := rfl
theorem strEq_beq {x y : Str} : (y == x) = strEq x y := by
  cases h : strEq x y with
  | true => rw [strEq_iff.mp h]; exact beq_self_eq_true y
  | false => exact beq_eq_false_iff_ne.mpr fun e => strEq_no h e.symm
theorem IsD.noRef {F : Addr → Obj → Prop} {ms : List Addr} {fs es} (h : IsD w F ms fs es) : es.any (·.refKey) = false := h.ind (P := fun _ es => es.any (·.refKey) = false) rfl fun _ _ ih => ih
theorem IsD.get {F : Addr → Obj → Prop} {ms : List Addr} {name : Str} {fs es} (h : IsD w F ms fs es) : (∀ q, lk name fs = some q → ∃ v, getL name es = some (some v) ∧ Is w F ms q v) ∧ (lk name fs = none → getL name es = some none) :=
  h.ind (P := fun fs es => (∀ q, lk name fs = some q → ∃ v, getL name es = some (some v) ∧ Is w F ms q v) ∧ (lk name fs = none → getL name es = some none)) ⟨fun _ e => (nomatch e), fun _ => rfl⟩ fun {x p v t l vs} i L ih => by
    have e0 : getL name (⟨PyData.keyHash w.params x, .str x t, v⟩ :: vs) = cond (strEq name x) (some (some v)) (getL name vs) := by
      unfold getL
      rw [List.find?_cons, isStr_str, strEq_beq, List.any_cons, L.noRef]
      cases strEq name x <;> rfl
    rw [e0]
    show (∀ q, cond (strEq name x) (some p) (lk name l) = some q → _) ∧ (cond (strEq name x) (some p) (lk name l) = none → _)
    cases strEq name x with
    | true => exact ⟨fun q e => ⟨v, rfl, Option.some.inj e ▸ i⟩, fun e => nomatch e⟩
    | false => exact ih
noncomputable def baseOk : Expr → Bool
  | .Call (.Name ..) [] [] _ => false
  | _ => true
theorem attributeBase_eq {o : Expr} {attr : Str} {env : Env} {whole : Sem Value} (h : baseOk o = true) : attributeBase o attr env whole = whole := by
  unfold attributeBase
  split
  · cases h
  · rfl
theorem attr_eq {value : Expr} {attr : Str} {pos : Pos} {env : Env} (h : baseOk value = true) : eval (.Attribute value attr pos) env = (do
      let o ← eval value env
      standAt pos.atName
      let r ← holding [o] (getAttr o attr true)
      letTemporaryGo value o r
      pure r) := by
  show (do
      let o ← attributeBase value attr env (eval value env)
      standAt pos.atName
      let r ← holding [o] (getAttr o attr true)
      letTemporaryGo value o r
      pure r) = _
  rw [attributeBase_eq h]
noncomputable def dictM : MO → Option (List (Str × PV))
  | .dict fs => some fs
  | _ => none
noncomputable def fieldsOf (st : AS) : PV → Option (Addr × List (Str × PV))
  | .inst C fs => some (C, fs)
  | .mob C i => Option.rec none (fun mo => Option.rec none (fun fs => some (C, fs)) (dictM mo)) (st.cells[i]?)
  | _ => none
theorem dictM_some {mo : MO} {fs} (h : dictM mo = some fs) : mo = .dict fs := by cases mo <;> first | (cases h; rfl) | cases h
/-- the object behind a value with fields -/
theorem fields_at {W : Wd} {h : Heap} {m cs} (R : RepX c W st h m cs) {C : Addr} {fs : List (Str × PV)} {v : Value} (e : fieldsOf st p = some (C, fs)) (i : Iv c p W v) :
    ∃ a d es, v = .ref a ∧ InstAt h a (instObj C d) C (some (dictOf es es.length)) ∧ IsD w (W.fact c.F) W.ms fs es := by
  cases p <;> first
    | (cases e; done)
    | (obtain ⟨a, d, es, rfl, h1, h2, l⟩ := Is.inst_inv i
       cases e
       exact ⟨a, d, es, rfl, instAt_get (R.at h1) (R.at h2), l⟩)
    | skip
  rename_i C' j
  obtain ⟨a, d, rfl, h1, h2⟩ := Is.mob_inv i
  have e : (Option.rec none (fun mo => Option.rec none (fun fs => some (C', fs)) (dictM mo)) (st.cells[j]?) : Option (Addr × List (Str × PV))) = some (C, fs) := e
  cases hc : st.cells[j]? with
  | none => rw [hc] at e; cases e
  | some mo =>
    rw [hc] at e
    have e : (Option.rec none (fun fs => some (C', fs)) (dictM mo) : Option (Addr × List (Str × PV))) = some (C, fs) := e
    cases hd : dictM mo with
    | none => rw [hd] at e; cases e
    | some fs' =>
      rw [hd] at e
      cases e
      obtain rfl := dictM_some hd
      obtain ⟨o, _, ho, im⟩ := R.cellAt hc h2
      obtain ⟨es, rfl, l⟩ := im.dict_inv
      exact ⟨a, d, _, rfl, instAt_get (R.at h1) ho, l⟩
theorem Ev_attr {value : Expr} {attr : Str} {pos : Pos} {C : Addr} {fs : List (Str × PV)} {at' : Option Value} (hb : baseOk value = true) (h : Ev c value st p st1) (hf : fieldsOf st1 p = some (C, fs)) (hl : lk attr fs = some q) (k1 : plainGet (KK w) C attr = true) (k2 : hasDictIn (KK w) C = true) (k3 : findIn (KK w) (.ref C) attr = some at')
    (k4 : noGet (KK w) at' = true) : Ev c (.Attribute value attr pos) st q st1 := fun W g tk R Q k =>
  Attribute_any_ (h W g tk R _ fun W1 v h1 tk1 l1 ⟨m, cs, R1⟩ i1 => by
    obtain ⟨a, d, es, rfl, I, l⟩ := fields_at R1 hf i1
    obtain ⟨v, e, iv⟩ := l.get.1 _ hl
    exact get_own R1.fr c.X I k1 k2 k3 k4 e iv.handed (k W1 v h1 _ l1 ⟨m, cs, R1⟩ iv)) (attr_eq hb)
/-! calls -/
/-- the cells of a heap -/
structure Cs (w : World) (F : Addr → Obj → Prop) (h : Heap) (cells : List MO) (cs : List (Addr × Obj)) : Prop where
  at_ : ∀ p ∈ cs, h.get? p.1 = some p.2
  nodup : (cs.map (·.1)).Nodup
  len : cells.length = cs.length
  is : ∀ (i : Nat) mo, cells[i]? = some mo → ∃ a o, cs[i]? = some (a, o) ∧ IsM w F (cs.map (·.1)) mo o
theorem Cs.mono {F F' : Addr → Obj → Prop} {h : Heap} {cells : List MO} {cs} (C : Cs w F h cells cs) (k : ∀ a o, F a o → F' a o) : Cs w F' h cells cs := ⟨C.at_, C.nodup, C.len, fun i mo e => have ⟨a, o, e, im⟩ := C.is i mo e; ⟨a, o, e, im.mono k fun _ _ q => q⟩⟩
/-- how a call may leave the heap -/
structure Left (w : World) (F : Addr → Obj → Prop) (h h' : Heap) (cs cs' : List (Addr × Obj)) (tl : List (Addr × Obj)) (ex : List Addr) (cells' : List MO) : Prop where
  keep : ∀ b o, b ∉ cs.map (·.1) → h.get? b = some o → h'.get? b = some o
  new : New h h' tl
  ms : cs'.map (·.1) = cs.map (·.1) ++ ex
  fresh : ∀ a ∈ ex, h.get? a = none ∧ ∀ p ∈ tl, p.1 ≠ a
  cells : Cs w (fun a o => F a o ∨ (a, o) ∈ tl) h' cells' cs'
/-- what a call may start from -/
structure Start {w : World} (g : Gl w) (n : Nat) (A : Around) (h : Heap) (F : Addr → Obj → Prop) (cells : List MO) (cs : List (Addr × Obj)) (args : List PV) (vs : List Value) : Prop where
  hF : ∀ a o, F a o → (hideAll h (cs.map (·.1))).get? a = some o
  cells : Cs w F h cells cs
  sur : Sur w g.p g.loose g.mean g.mg g.mb A (hideAll h (cs.map (·.1))) n
  args : IsL w F (cs.map (·.1)) args vs
/-- a call: what it gives back and what becomes of the cells -/
noncomputable def CallTo {w : World} (g : Gl w) (n : Nat) (f : Addr) (args : List PV) (cells : List MO) (r : PV) (cells' : List MO) : Prop :=
  ∀ A h tk gs dr os F cs vs, Start g n A h F cells cs args vs → ∀ Q : Value → Shared → Prop,
    (∀ v h' tk' tl cs' ex, Left w F h h' cs cs' tl ex cells' → Is w (fun a o => F a o ∨ (a, o) ∈ tl) (cs'.map (·.1)) r v → Q v ⟨h', gs, dr, tk', os⟩) → wpAny (model g.prog w) A (call (.ref f) vs) Q never ⟨h, gs, dr, tk, os⟩
/-- the same of the code, for any reader of its result -/
noncomputable def CodeTo {w : World} (g : Gl w) (n : Nat) (f : Addr) (args : List PV) (cells : List MO) (r : PV) (cells' : List MO) : Prop :=
  ∀ A h tk gs dr os F cs vs, Start g n A h F cells cs args vs → ∀ R : Result → Shared → Prop,
    (∀ v h' tk' tl cs' ex, Left w F h h' cs cs' tl ex cells' → Is w (fun a o => F a o ∨ (a, o) ∈ tl) (cs'.map (·.1)) r v → R (.ok (.ret v)) ⟨h', gs, dr, tk', os⟩) → codeAny (model g.prog w) A (.call (.ref f) ⟨vs, []⟩) R ⟨h, gs, dr, tk, os⟩
theorem CodeTo.call {g : Gl w} {n f : Nat} {args : List PV} {cells cells' : List MO} (h : CodeTo g n f args cells r cells') : CallTo g n f args cells r cells' :=
  fun A h0 tk gs dr os F cs vs S Q kQ => wpAny_call (h A h0 tk gs dr os F cs vs S _ kQ)
theorem RepX.off {W : Wd} {h : Heap} {m cs} (R : RepX c W st h m cs) {a : Addr} (hm : a ∈ cs.map (·.1)) : c.H.get? a = none ∧ a ≠ c.L := by
  obtain ⟨p, hp, e⟩ := List.mem_map.mp hm
  have z := R.news _ (List.mem_append_left _ hp)
  rw [e] at z
  exact ⟨z.2.2, z.2.1⟩
theorem RepX.start {W : Wd} {h : Heap} {m cs} (R : RepX c W st h m cs) {ps : List PV} {vs : List Value} (i : Il c ps W vs) : Start c.toGl c.n c.A h (W.fact c.F) st.cells cs ps vs where
  hF := fun a o q => hideAll_get _ (R.at q) fun hm => by
    rcases q with q | q
    · have z := (R.off hm).1
      rw [c.hF _ _ q] at z; cases z
    · rw [R.ms] at hm
      exact R.sep _ q hm
  cells := ⟨fun p hp => (R.news p (List.mem_append_left _ hp)).1, by rw [R.ms]; exact R.nodup, R.len, by rw [R.ms]; exact R.cells⟩
  sur := c.sur h m cs R.fr fun p hp => R.news p (List.mem_append_left _ hp)
  args := by rw [R.ms]; exact i
theorem Left.rep {W : Wd} {h h' : Heap} {m cs cs' tl ex cells'} (R : RepX c W st h m cs) (D : Left w (W.fact c.F) h h' cs cs' tl ex cells') : ∃ W', W.le W' ∧ RepX c W' { st with cells := cells' } h' m cs' ∧ W'.ms = cs'.map (·.1) ∧ ∀ a o, (W.fact c.F a o ∨ (a, o) ∈ tl) → W'.fact c.F a o := by
  have F' : Fr c.H c.L h' m := ⟨R.fr.ns.at' fun o e => D.keep _ _ (fun hm => (R.off hm).2 rfl) e, fun b o e => D.keep b o (fun hm => by rw [(R.off hm).1] at e; cases e) (R.fr.keep b o e), R.fr.above⟩
  have fresh : ∀ {a o}, h'.get? a = some o → h.get? a = none → h'.get? a = some o ∧ a ≠ c.L ∧ c.H.get? a = none := fun {a o} e1 e2 => by
    refine ⟨e1, fun e => ?_, ?_⟩
    · obtain ⟨o', es, ep, ho', _⟩ := R.fr.ns
      rw [e, ho'] at e2; cases e2
    · cases e : c.H.get? a with
      | none => rfl
      | some o' => rw [R.fr.keep _ _ e] at e2; cases e2
  have le : W.le ⟨tl ++ W.fr, cs'.map (·.1)⟩ := ⟨fun p q => List.mem_append_right _ q, fun i a q => by
    rw [← R.ms] at q
    show (cs'.map (·.1))[i]? = _
    rw [D.ms]; exact msnocs q⟩
  have up : ∀ a o, (W.fact c.F a o ∨ (a, o) ∈ tl) → Wd.fact ⟨tl ++ W.fr, cs'.map (·.1)⟩ c.F a o := fun a o q =>
    q.elim (fun q => q.elim .inl fun q => .inr (List.mem_append_right _ q)) fun q => .inr (List.mem_append_left _ q)
  refine ⟨⟨tl ++ W.fr, cs'.map (·.1)⟩, le, ⟨F', fun p hp => ?_, rfl, D.cells.nodup, fun p hp => ?_, fun x p e => (R.loc x p e).up le, D.cells.len, fun i mo e => ?_⟩, rfl, up⟩
  · rcases List.mem_append.mp hp with hp | hp
    · have hp1 : p.1 ∈ cs'.map (·.1) := List.mem_map_of_mem hp
      rw [D.ms] at hp1
      rcases List.mem_append.mp hp1 with hq | hq
      · exact ⟨D.cells.at_ p hp, (R.off hq).2, (R.off hq).1⟩
      · exact fresh (D.cells.at_ p hp) (D.fresh _ hq).1
    · rcases List.mem_append.mp hp with hp | hp
      · exact fresh (D.new p hp).1 (D.new p hp).2
      · have z := R.news p (List.mem_append_right _ hp)
        exact ⟨D.keep _ _ (by rw [R.ms]; exact R.sep p hp) z.1, z.2⟩
  · show p.1 ∉ cs'.map (·.1)
    rw [D.ms]
    intro hm
    rcases List.mem_append.mp hp with hp | hp
    · rcases List.mem_append.mp hm with hm | hm
      · obtain ⟨q, hq, e⟩ := List.mem_map.mp hm
        have z := (R.news q (List.mem_append_left _ hq)).1
        rw [e, (D.new p hp).2] at z; cases z
      · exact (D.fresh _ hm).2 p hp rfl
    · rcases List.mem_append.mp hm with hm | hm
      · rw [R.ms] at hm; exact R.sep p hp hm
      · have z := (R.news p (List.mem_append_right _ hp)).1
        rw [(D.fresh _ hm).1] at z; cases z
  · obtain ⟨a, o, e, im⟩ := D.cells.is i mo e
    exact ⟨a, o, e, im.mono up fun _ _ q => q⟩
where msnocs {l r : List Addr} {i : Nat} {a : Addr} (q : l[i]? = some a) : (l ++ r)[i]? = some a := (List.getElem?_append_left (List.getElem?_eq_some_iff.mp q).1).trans q
theorem CallTo.wp {f : Addr} {ps : List PV} {cells' : List MO} (hc : CallTo c.toGl c.n f ps st.cells r cells') {W : Wd} {h : Heap} {tk : Nat} {vs : List Value} (R : Rep c W st h) (i : Il c ps W vs) {Q : Value → Shared → Prop}
    (k : To c W { st with cells := cells' } (Iv c r) Q) : wpAny c.M c.A (call (.ref f) vs) Q never (c.sh h tk) := by
  obtain ⟨m, cs, R⟩ := R
  refine hc c.A h tk c.gs c.dr c.os (W.fact c.F) cs vs (R.start i) Q fun v h' tk' tl cs' ex D iv => ?_
  obtain ⟨W', le, R', e, up⟩ := D.rep R
  exact k W' v h' tk' le ⟨m, cs', R'⟩ (by show Is _ _ _ _ _; rw [e]; exact iv.mono up fun _ _ q => q)
theorem plain_args {es : List Expr} {env : Env} {pos : Pos} (h : es.all notStar = true) : (backTo pos (starEach es env)).any (·.1) = false := by
  induction es with
  | nil => rfl
  | cons e rest ih =>
    rw [List.all_cons, Bool.and_eq_true] at h
    rw [starEach_cons h.1]
    exact ih h.2
/-- the arguments, first the call's own -/
noncomputable def EvA (c : Act w) (es : List Expr) (st : AS) (ps : List PV) (st' : AS) : Prop := (es = [] ∧ ps = [] ∧ st' = st) ∨ (es ≠ [] ∧ es.all notStar = true ∧ EvL c es st ps st')
theorem callWith_any {pos : Pos} {f : Value} {first : List Value} {es : List Expr} {ps : List PV} {W : Wd} {h : Heap} {tk : Nat} {Q : Value → Shared → Prop} (hk : keepIn (KK w) f = true)
    (R : Rep c W st h) (he : EvA c es st ps st1)
    (k : ∀ W' vs h' tk', W.le W' → Rep c W' st1 h' → Il c ps W' vs → wpAny c.M c.A (call f (first ++ vs)) Q never (c.sh h' tk')) : wpAny c.M c.A (callWith pos f first (backTo pos (starEach es c.env)) []) Q never (c.sh h tk) := by
  have inK : ∀ {W h st}, Rep c W st h → (KK w).In h := fun ⟨_, _, R⟩ => c.X.keeps R.fr.keep
  rcases he with ⟨rfl, rfl, rfl⟩ | ⟨hne, hs, he⟩
  · exact callWith_K0 (K := KK w) (inK R) hk (k W [] h tk .rfl R .nil)
  · cases es with
    | nil => exact absurd rfl hne
    | cons e es =>
      rw [List.all_cons, Bool.and_eq_true] at hs
      exact callWith_K (K := KK w) (inK R) hk (he pos W h tk R _ fun W' vs h' tk' l R' i => ⟨inK R', k W' vs h' tk' l R' i⟩) (starEach_cons hs.1) (plain_args hs.2)
theorem Ev_call {x : Str} {xp : Pos} {es : List Expr} {pos : Pos} {f : Addr} {ps : List PV} (hf : Ev c (.Name x xp) st (.glob (.ref f)) st1) (hk : keepIn (KK w) (.ref f) = true) (ha : EvA c es st1 ps st2) {cells' : List MO} (hc : CallTo c.toGl c.n f ps st2.cells r cells') :
    Ev c (.Call (.Name x xp) es [] pos) st r { st2 with cells := cells' } := fun W g tk R Q k =>
  Call_ (hf W g tk R _ fun W1 v h1 tk1 l1 R1 i1 => by
    cases Is.glob_eq i1
    exact callWith_any (first := []) hk R1 ha fun W2 vs h2 tk2 l2 R2 i2 => hc.wp R2 i2 (k.up (l1.trans l2))) rfl
theorem meth_eq {o : Expr} {name : Str} {apos pos : Pos} {es : List Expr} {env : Env} (hb : baseOk o = true) (hs : es.all notStar = true) (hn : Nat.ble es.length 20 = true) (hl : Nat.beq apos.endLine pos.line = true) :
    eval (.Call (.Attribute o name apos) es [] pos) env = (do
      let ov ← eval o env
      standAt apos.atName
      let (f, first) ← holding [ov] (getMethod ov name (do return (← importBound o env).getD true))
      callWith pos f first (backTo pos (starEach es env)) []) := by
  have form : (backTo pos (starEach es env)).all (!·.1) = true := by
    clear hn
    induction es with
    | nil => rfl
    | cons e rest ih =>
      rw [List.all_cons, Bool.and_eq_true] at hs
      rw [starEach_cons hs.1]
      exact ih hs.2
  show (do
    let ov ← attributeBase o name env (eval o env)
    standAt apos.atName
    methodCall o name apos pos env ov (es.length + 0) (backTo pos (starEach es env)) (backToKw pos (keywordEach [] env))) = _
  have hf : methodCallForm (es.length + 0) (backTo pos (starEach es env)) (backToKw pos (keywordEach [] env)) = true := by
    unfold methodCallForm
    rw [form]
    exact decide_eq_true (Nat.lt_of_le_of_lt (Nat.le_of_ble_eq_true hn) (by decide))
  have hp : methodCallPos true o env apos pos = pure pos := by
    unfold methodCallPos
    rw [Nat.eq_of_beq_eq_true hl]
    simp
  rw [attributeBase_eq hb]
  unfold methodCall
  rw [hf, hp]
  rfl
theorem Ev_meth {o : Expr} {name : Str} {es : List Expr} {apos pos : Pos} {f C : Addr} {fs : List (Str × PV)} {ps : List PV} (hb : baseOk o = true) (hs : es.all notStar = true) (hn : Nat.ble es.length 20 = true) (hlin : Nat.beq apos.endLine pos.line = true) (ho : Ev c o st p st1) (hf : fieldsOf st1 p = some (C, fs)) (hl : lk name fs = none)
    (k1 : plainGet (KK w) C name = true) (k2 : findIn (KK w) (.ref C) name = some (some (.ref f))) (k3 : isFn (KK w) (.ref f) = true) (k4 : keepIn (KK w) (.ref f) = true)
    (ha : EvA c es st1 ps st2) {cells' : List MO} (hc : CallTo c.toGl c.n f (p :: ps) st2.cells r cells') : Ev c (.Call (.Attribute o name apos) es [] pos) st r { st2 with cells := cells' } := fun W g tk R Q k =>
  MethodCall_ (ho W g tk R _ fun W1 v h1 tk1 l1 ⟨m, cs, R1⟩ i1 => by
    obtain ⟨a, d, es', rfl, I, l⟩ := fields_at R1 hf i1
    refine method_inst R1.fr c.X I k1 k2 k3 (l.get.2 hl) ?_
    exact callWith_any (first := [.ref a]) k4 ⟨m, cs, R1⟩ ha fun W2 vs h2 tk2 l2 R2 i2 => hc.wp R2 (.cons (i1.up l2) i2) (k.up (l1.trans l2))) (meth_eq hb hs hn hlin)
/-- a built-in -/
noncomputable def BCall (c : Act w) (id : Value) (ps : List PV) (st : AS) (r : PV) (st' : AS) : Prop :=
  ∀ W h tk vs, Rep c W st h → Il c ps W vs → ∀ Q : Value → Shared → Prop, To c W st' (Iv c r) Q → wpAny c.M c.A (call id vs) Q never (c.sh h tk)
theorem Ev_bcall {x : Str} {xp : Pos} {e : Expr} {es : List Expr} {pos : Pos} {id : String} {ps : List PV} (hf : Ev c (.Name x xp) st (.glob (.builtin id)) st1) (hs : (e :: es).all notStar = true) (ha : EvL c (e :: es) st1 ps st2) (hc : BCall c (.builtin id) ps st2 r st3) :
    Ev c (.Call (.Name x xp) (e :: es) [] pos) st r st3 := fun W g tk R Q k =>
  Call_ (hf W g tk R _ fun W1 v h1 tk1 l1 R1 i1 => by
    cases Is.glob_eq i1
    rw [List.all_cons, Bool.and_eq_true] at hs
    exact callWith_builtin1 (ha pos W1 h1 tk1 R1 _ fun W2 vs h2 tk2 l2 R2 i2 => hc W2 h2 tk2 vs R2 i2 Q (k.up (l1.trans l2))) (starEach_cons hs.1) (plain_args hs.2)) rfl
theorem BCall_len {t : Its} (e : itsOf st p = some t) (hk : t.len ≤ 1000) : BCall c (.builtin "len") [p] st (.int t.len) st := fun W h tk _ ⟨m, cs, R⟩ l Q kk => by
  obtain ⟨v, rfl, i⟩ := IsL.one_inv l
  obtain ⟨a, n, vs, rfl, ha, hl, _⟩ := its_at R e i
  exact len_known ha (by rw [List.size_toArray]; exact hl) hk (kk W _ h _ .rfl ⟨m, cs, R⟩ .int)
theorem BCall_max {x y : Int} : BCall c (.builtin "max") [.int x, .int y] st (.int (max x y)) st := fun W h tk _ ⟨m, cs, R⟩ l Q k => by
  obtain ⟨_, _, rfl, i, j⟩ := IsL.two_inv l
  obtain ⟨t, rfl⟩ := i.int_inv
  obtain ⟨u, rfl⟩ := j.int_inv
  refine max_two_N (by exact c.hand) R.fr R.news fun h' tk' F' N' => ?_
  rw [show (if y > x then y else x) = max x y by omega]
  exact k W _ h' _ .rfl ⟨m, cs, R.same F' N'⟩ .int
theorem BCall_min {x y : Int} : BCall c (.builtin "min") [.int x, .int y] st (.int (min x y)) st := fun W h tk _ ⟨m, cs, R⟩ l Q k => by
  obtain ⟨_, _, rfl, i, j⟩ := IsL.two_inv l
  obtain ⟨t, rfl⟩ := i.int_inv
  obtain ⟨u, rfl⟩ := j.int_inv
  refine min_two_N (by exact c.hand) R.fr R.news fun h' tk' F' N' => ?_
  rw [show (if y < x then y else x) = min x y by omega]
  exact k W _ h' _ .rfl ⟨m, cs, R.same F' N'⟩ .int
/-- range(n) -/
noncomputable def rangeP (z : Int) : PV := .obj fun h a => ∃ t u v, IsRange h a 0 z 1 t u v
theorem Ev_range {nm : Str} {e : Expr} {xp pos : Pos} {z : Int} (hf : Ev c (.Name nm xp) st (.glob (.type "range")) st1) (hse : notStar e = true) (he : Ev c e st1 (.int z) st2) : Ev c (.Call (.Name nm xp) [e] [] pos) st (rangeP z) st2 := fun W g tk R Q kQ =>
  Call_ (hf W g tk R _ fun W0 v0 h0 tk0 l0 R0 i0 => by
    cases Is.glob_eq i0
    exact callWith_type1 (args_cons (he W0 h0 tk0 R0 _ fun W1 v h tk1 l1 ⟨m, cs, R1⟩ iv => args_nil (by
      obtain ⟨t, rfl⟩ := iv.int_inv
      refine call_range_1 ?_
      obtain ⟨R4, l4⟩ := R1.grow (tl := [(h.objs.size, { cls := .type "range", data := .fields #[.int 0 tk1, .int z t, .int 1 (tk1 + 1)] })]) (R1.fr.push _) (fun p hp => by
        rcases List.mem_cons.mp hp with rfl | hp
        · exact ⟨Heap.get?_push_size _ rfl, Nat.ne_of_gt R1.fr.ns.lt, next_is_new R1.fr⟩
        · exact ⟨Heap.get?_push_of_some _ (R1.news p hp).1, (R1.news p hp).2⟩) (fun p hp => by rw [List.mem_singleton.mp hp]; exact R1.above fun p hp => Heap.lt_size (R1.news p hp).1)
      exact kQ _ _ _ _ ((l0.trans l1).trans l4) ⟨m, cs, R4⟩ (.obj fun h' hF => ⟨_, _, _, hF _ _ (.inr (.head _))⟩))) (starEach_cons hse)) (starEach_cons hse) rfl) (by rfl)
/-! items -/
noncomputable def notSlice : Expr → Bool
  | .Slice .. => false
  | _ => true
theorem sub_eq {slice : Expr} {o i : Value} (h : notSlice slice = true) : subscripted slice false o i = operate [o, i] (getItem o i) := by
  cases slice <;> first | rfl | cases h
theorem Ev_sub {value slice : Expr} {pos : Pos} (h1 : Ev c value st p st1) (h2 : Ev c slice st1 q st2) (h3 : Opd c st2 p q (subscriptTail value slice) r st3) : Ev c (.Subscript value slice pos) st r st3 := fun W g tk R Q k =>
  Subscript_ (h1 W g tk R _ fun W1 v h1' tk1 l1 R1 i1 => h2 W1 h1' tk1 R1 _ fun W2 u h2' tk2 l2 R2 i2 => h3 W2 h2' tk2 v u R2 (i1.up l2) i2 Q (k.up (l1.trans l2)))
theorem It_item {value slice : Expr} {t : Its} {z : Int} (hs : notSlice slice = true) (hp : itsOf st p = some t) (h0 : 0 ≤ z) (hz : z < 1000000) (hq : t.at? z.toNat = some q) : Opd c st p (.int z) (subscriptTail value slice) q st := fun W h tk a b ⟨m, cs, R⟩ i j Q k => by
  obtain ⟨a, n, vs, rfl, ha, _, hv⟩ := its_at R hp i
  obtain ⟨u, rfl⟩ := Is.int_inv j
  obtain ⟨x, hx, ix⟩ := hv _ _ hq
  exact item_get ha h0 (Int.lt_trans hz (by decide)) (by rw [List.getElem?_toArray]; exact hx) (k W x h tk .rfl ⟨m, cs, R⟩ ix) (sub_eq hs)
theorem It_last {value slice : Expr} {t : Its} (hs : notSlice slice = true) (hp : itsOf st p = some t) (hn : t.len ≤ 1000) (hq : t.at? (t.len - 1) = some q) (h0 : 0 < t.len) : Opd c st p (.int (-1)) (subscriptTail value slice) q st := fun W h tk a b ⟨m, cs, R⟩ i j Q k => by
  obtain ⟨a, n, vs, rfl, ha, hl, hv⟩ := its_at R hp i
  obtain ⟨u, rfl⟩ := Is.int_inv j
  obtain ⟨x, hx, ix⟩ := hv _ _ hq
  refine tail_any (isL ha).typeIs slot_list_getitem.lookup (wpAny_getItem_list_neg (isL ha) (by decide) (by rw [List.size_toArray]; omega) (by decide) (x := x) ?_ (k W x h tk .rfl ⟨m, cs, R⟩ ix)) (sub_eq hs)
  rw [List.size_toArray, show (-1 + (vs.length : Int)).toNat = t.len - 1 by omega, List.getElem?_toArray]
  exact hx
theorem It_tup {value slice : Expr} {l : List PV} {k : Nat} (hs : notSlice slice = true) (hk : Nat.ble k 1000 = true) (hq : l[k]? = some q) : Opd c st (.tup l) (.int (k : Int)) (subscriptTail value slice) q st := fun W h tk a b ⟨m, cs, R⟩ i j Q kk => by
  obtain ⟨a, n, vs, rfl, hf, il⟩ := Is.tup_inv i
  obtain ⟨u, rfl⟩ := Is.int_inv j
  obtain ⟨x, hx, ix⟩ := il.get hq
  have h1 := Nat.le_of_ble_eq_true hk
  have h2 := (List.getElem?_eq_some_iff.mp hq).1
  exact tup_get (R.at hf) (by omega) (by omega) (by rw [← il.length]; exact seqIndex_of (by omega) (by omega)) (by rw [Int.toNat_natCast]; exact hx) (kk W x h tk .rfl ⟨m, cs, R⟩ ix) (sub_eq hs)
end
end

end
noncomputable section
noncomputable section
section
variable {w : World} {c : Act w} {st st1 st2 st3 : AS} {p q r : PV}
theorem upd_set {d : Addr} {o o' : Obj} {r : List (Addr × Obj)} (n : ∀ p ∈ r, p.1 ≠ d) : ∀ {l : List (Addr × Obj)} {i : Nat}, l[i]? = some (d, o) → (l.map (·.1)).Nodup → Upd d o o' (l ++ r) (l.set i (d, o') ++ r) := by
  intro l
  induction l with
  | nil => intro i e; cases e
  | cons x l ih =>
    intro i e nd
    rw [List.map_cons, List.nodup_cons] at nd
    cases i with
    | zero =>
      cases (Option.some.inj e : x = (d, o))
      exact .head fun p hp => (List.mem_append.mp hp).elim (fun hp q => nd.1 (by show d ∈ _; rw [← q]; exact List.mem_map_of_mem (f := (·.1)) hp)) (n p)
    | succ i =>
      have e : l[i]? = some (d, o) := e
      exact .tail (fun q => nd.1 (by rw [q]; exact List.mem_map_of_mem (f := (·.1)) (List.mem_of_getElem? e))) (ih e nd.2)
theorem map_set_fst {l : List (Addr × Obj)} {i : Nat} {d : Addr} {o o' : Obj} (e : l[i]? = some (d, o)) : (l.set i (d, o')).map (·.1) = l.map (·.1) := by
  have : (l.map (·.1))[i]? = some d := by rw [List.getElem?_map, e]; rfl
  obtain ⟨h1, h2⟩ := List.getElem?_eq_some_iff.mp this
  rw [List.map_set]
  conv => rhs; rw [← List.set_getElem_self h1]
  rw [h2]
theorem RepX.upd {W : Wd} {h : Heap} {m cs} (R : RepX c W st h m cs) {i : Nat} {d : Addr} {o : Obj} (e : cs[i]? = some (d, o)) (o' : Obj) : Upd d o o' (cs ++ W.fr) (cs.set i (d, o') ++ W.fr) :=
  upd_set (fun p hp q => R.sep p hp (by rw [← R.ms, q]; exact List.mem_map_of_mem (f := (·.1)) (List.mem_of_getElem? e))) e (by rw [R.ms]; exact R.nodup)
theorem RepX.setCell {W : Wd} {h h' : Heap} {m cs} (R : RepX c W st h m cs) {i : Nat} {d : Addr} {o o' : Obj} {mo : MO} (e : cs[i]? = some (d, o)) (F' : Fr c.H c.L h' m) (N' : News c.H c.L h' (cs.set i (d, o') ++ W.fr))
    (im : IsM w (W.fact c.F) W.ms mo o') : RepX c W { st with cells := st.cells.set i mo } h' m (cs.set i (d, o')) := by
  refine ⟨F', N', by rw [map_set_fst e]; exact R.ms, R.nodup, R.sep, R.loc, by rw [List.length_set, List.length_set]; exact R.len, fun j mo' e' => ?_⟩
  have hi := (List.getElem?_eq_some_iff.mp e).1
  by_cases hj : i = j
  · subst hj
    rw [List.getElem?_set_self (by rw [R.len]; exact hi)] at e'
    cases e'
    exact ⟨d, o', List.getElem?_set_self hi, im⟩
  · rw [List.getElem?_set_ne hj] at e'
    obtain ⟨a, b, e1, i1⟩ := R.cells j mo' e'
    exact ⟨a, b, by rw [List.getElem?_set_ne hj]; exact e1, i1⟩
/-! attributes set -/
theorem setL_length {α : Type} {x : Str} {v : α} {l : List (Str × α)} : (setL x v l).length ≤ l.length + 1 := by
  induction l with
  | nil => exact Nat.le_refl _
  | cons p l ih =>
    show (cond (strEq x p.1) ((p.1, v) :: l) (p :: setL x v l)).length ≤ _
    cases strEq x p.1 with
    | true => exact Nat.le_succ _
    | false => exact Nat.succ_le_succ ih
theorem IsD.put {F : Addr → Obj → Prop} {ms : List Addr} {x : Str} {t : Tok} {v : Value} (i : Is w F ms p v) {fs es} (h : IsD w F ms fs es) : IsD w F ms (setL x p fs) (putL x (PyData.keyHash w.params x) (.str x t) v es) :=
  h.ind (P := fun fs es => IsD w F ms (setL x p fs) (putL x (PyData.keyHash w.params x) (.str x t) v es)) (.cons i .nil) fun {y q u t' l vs} j L ih => by
    show IsD w F ms (cond (strEq x y) ((y, p) :: l) ((y, q) :: setL x p l)) (if (Value.str y t').isStr x = true then _ else _)
    rw [isStr_str, strEq_beq]
    cases h : strEq x y with
    | true => exact .cons i L
    | false => exact .cons j ih
theorem putN_len {name : Str} {hs : Int} {k v : Value} {es : List DictEntry} : putN name es es.length = (putL name hs k v es).length := by
  induction es with
  | nil => rfl
  | cons e es ih =>
    unfold putN at ih ⊢
    unfold putL
    rw [List.any_cons]
    cases h : e.key.isStr name with
    | true => rfl
    | false =>
      show (if (false || es.any _) = true then _ else _) = List.length (e :: putL name hs k v es)
      rw [show (e :: putL name hs k v es).length = (putL name hs k v es).length + 1 from rfl, ← ih, Bool.false_or]
      cases es.any fun e => e.key.isStr name <;> rfl
theorem IsD.length {F : Addr → Obj → Prop} {ms : List Addr} {fs es} (h : IsD w F ms fs es) : es.length = fs.length := h.ind (P := fun fs es => es.length = fs.length) rfl fun _ _ ih => congrArg (· + 1) ih
noncomputable def setOk (K : Frag) (C : Addr) (name : Str) : Bool := (match findIn K (.ref C) "__setattr__" with
  | some (some (.builtin id)) => decide (id = "object.__setattr__")
  | _ => false) && (plainOver K C && ((match takerIn K C name with
  | some none => true
  | _ => false) && hasDictIn K C))
theorem setOk_of {K : Frag} {C : Addr} {name : Str} (h : setOk K C name = true) : findIn K (.ref C) "__setattr__" = some (some (.builtin "object.__setattr__")) ∧ plainOver K C = true ∧ takerIn K C name = some none ∧ hasDictIn K C = true := by
  unfold setOk at h
  rw [Bool.and_eq_true, Bool.and_eq_true, Bool.and_eq_true] at h
  obtain ⟨h1, h2, h3, h4⟩ := h
  refine ⟨?_, h2, ?_, h4⟩
  · split at h1
    · rename_i e; rw [e, of_decide_eq_true h1]
    · cases h1
  · split at h3
    · assumption
    · cases h3
theorem setAttr_wp {W : Wd} {h : Heap} {tk : Nat} {C : Addr} {i : Nat} {fs : List (Str × PV)} {name : Str} {a v : Value} (R : Rep c W st h) (hc : st.cells[i]? = some (.dict fs)) (hk : setOk (KK w) C name = true) (hn : Nat.ble fs.length 900 = true)
    (ia : Iv c (.mob C i) W a) (iv : Iv c p W v) {Q : Unit → Shared → Prop} (k : ∀ h' tk', Rep c W { st with cells := st.cells.set i (.dict (setL name p fs)) } h' → Q () (c.sh h' tk')) :
    wpAny c.M c.A (setAttr a name v) Q never (c.sh h tk) := by
  obtain ⟨m, cs, R⟩ := R
  obtain ⟨k1, k2, k3, k4⟩ := setOk_of hk
  obtain ⟨x, d, rfl, h1, h2⟩ := Is.mob_inv ia
  obtain ⟨o, e1, ho, im⟩ := R.cellAt hc h2
  obtain ⟨es, rfl, l⟩ := im.dict_inv
  have hp := l.put (x := name) (t := tk + 1) iv
  refine set_dict R.fr c.X R.news (instAt_get (R.at h1) ho) rfl k1 k2 k3 k4 ?_ rfl (R.upd e1 _) ?_ fun h' F' N' => k h' _ ⟨m, _, R.setCell e1 F' N' (by rw [putN_len]; exact .dict hp)⟩
  · have g := l.get (name := name)
    cases e : lk name fs with
    | none => rw [g.2 e]; rfl
    | some q => obtain ⟨u, e2, _⟩ := g.1 q e; rw [e2]; rfl
  · rw [hp.length]
    exact Nat.le_trans setL_length (Nat.le_trans (Nat.succ_le_succ (Nat.le_of_ble_eq_true hn)) (by decide))
noncomputable def notComp : Expr → Bool
  | .ListComp .. | .SetComp .. | .DictComp .. => false
  | _ => true
theorem swaps_eq {value : Expr} {t : Option Expr} {n : Nat} {env : Env} (h : notComp value = true) : swapsWith value t n env = pure false := by
  cases value <;> first | rfl | cases h
theorem Ex1_setattr {o value : Expr} {attr : Str} {pos pos' : Pos} {C : Addr} {i : Nat} {fs : List (Str × PV)} (hm : notComp value = true) (hv : Ev c value st p st1) (ho : Ev c o st1 (.mob C i) st2) (hc : st2.cells[i]? = some (.dict fs)) (hk : setOk (KK w) C attr = true) (hn : Nat.ble fs.length 900 = true) :
    Ex1 c (.Assign [.Attribute o attr pos'] value pos) st .next { st2 with cells := st2.cells.set i (.dict (setL attr p fs)) } := fun W g tk R Q k =>
  plainObj_wpAny_Assign_Attribute (hv W g tk R _ fun W1 v h1 tk1 l1 R1 i1 => ho W1 h1 tk1 R1 _ fun W2 a h2 tk2 l2 R2 i2 => setAttr_wp R2 hc hk hn i2 (i1.up l2) fun h' tk' R' => k W2 .next h' tk' (l1.trans l2) R' .next) (swaps_eq hm)
theorem IsL.set {F : Addr → Obj → Prop} {ms : List Addr} {v : Value} {l vs} (h : IsL w F ms l vs) (i : Is w F ms p v) : ∀ {k : Nat}, IsL w F ms (l.set k p) (vs.set k v) :=
  h.ind (P := fun l vs => ∀ {k : Nat}, IsL w F ms (l.set k p) (vs.set k v)) .nil fun {_ _ _ _} j L ih {k} => match k with
    | 0 => .cons i L
    | k + 1 => .cons j ih
/-- deck[k] = value -/
theorem Ex1_setitem {o idx value : Expr} {pos' pos : Pos} {i k : Nat} {l : List PV} (hm : notComp value = true) (hv : Ev c value st p st1) (ho : Ev c o st1 (.cell i) st2) (hi : Ev c idx st2 (.int k) st3) (hc : st3.cells[i]? = some (.list l)) (hk : k < l.length) (hl : l.length ≤ 1000) :
    Ex1 c (.Assign [.Subscript o idx pos'] value pos) st .next { st3 with cells := st3.cells.set i (.list (l.set k p)) } := fun W g tk R Q kQ =>
  wpAny_Assign_Subscript (hv W g tk R _ fun W1 v h1 tk1 l1 R1 i1 => ho W1 h1 tk1 R1 _ fun W2 a h2 tk2 l2 R2 i2 => hi W2 h2 tk2 R2 _ fun W3 z h3 tk3 l3 ⟨m, cs, R3⟩ i3 => by
    obtain ⟨D, rfl, hD⟩ := (i2.up l3).cell_inv
    obtain ⟨t, rfl⟩ := i3.int_inv
    obtain ⟨ob, e1, ho', im⟩ := R3.cellAt hc hD
    obtain ⟨vs, n, rfl, il⟩ := im.list_inv
    have hlen : k < vs.toArray.size := by rw [List.size_toArray, ← il.length]; exact hk
    obtain ⟨pre, post, e3, e4, a1, b1⟩ := (R3.upd e1 (PySem.W.listOf (vs.set k v).toArray n)).split
    have z := R3.news (D, PySem.W.listOf vs.toArray n) (List.mem_append_left _ (List.mem_of_getElem? e1))
    have N3 := R3.news
    rw [e3] at N3
    refine ki_setAt ho' (Int.natCast_nonneg k) (by omega) (by omega) (kQ W3 .next _ _ ((l1.trans l2).trans l3) ⟨m, _, R3.setCell e1 (R3.fr.change (Heap.SameBut.update ..) z.2.1 z.2.2) (by
      rw [e4]
      exact ki_turn _ N3 a1 b1 (by
        show vs.toArray.setIfInBounds (k : Int).toNat v = (vs.set k v).toArray
        rw [Int.toNat_natCast]; exact List.setIfInBounds_toArray ..) (by rw [if_pos (by rw [List.size_toArray, List.size_toArray, List.length_set]; exact beq_self_eq_true _)])) (.list (IsL.set il (i1.up (l2.trans l3))))⟩ .next)) (swaps_eq hm)
/-! append -/
noncomputable def listM : MO → Bool
  | .list _ | .seq .. => true
  | _ => false
theorem listM_at {F : Addr → Obj → Prop} {ms : List Addr} {mo : MO} {o : Obj} (h : listM mo = true) (im : IsM w F ms mo o) : ∃ vs n, o = PySem.W.listOf (List.toArray vs) n := by
  cases im <;> first | exact ⟨_, _, rfl⟩ | cases h
/-- one more item -/
noncomputable def Snoc (w : World) (mo : MO) (p : PV) (mo' : MO) : Prop := ∀ (F : Addr → Obj → Prop) (ms : List Addr) (o : Obj) (v : Value), IsM w F ms mo o → Is w F ms p v →
  ∃ vs n, o = PySem.W.listOf (List.toArray vs) n ∧ vs.length ≤ 1000 ∧ IsM w F ms mo' (PySem.W.listOf ((List.toArray vs).push v) (n + 1))
theorem Snoc.list {l : List PV} (h : Nat.ble l.length 1000 = true) : Snoc w (.list l) p (.list (l ++ [p])) := fun F ms o v im i => by
  obtain ⟨vs, n, rfl, l1⟩ := im.list_inv
  exact ⟨vs, n, rfl, by rw [← l1.length]; exact Nat.le_of_ble_eq_true h, by rw [List.push_toArray]; exact .list (l1.append (.cons i .nil))⟩
theorem Snoc.seq {k : Nat} {f : Nat → PV} (h : f k = p ∧ k ≤ 1000) : Snoc w (.seq k f) p (.seq (k + 1) f) := fun F ms o v im i => by
  obtain ⟨rfl, hk⟩ := h
  obtain ⟨vs, n, rfl, e, l⟩ := im.seq_inv
  subst e
  refine ⟨vs, n, rfl, hk, ?_⟩
  rw [List.push_toArray]
  refine .seq List.length_append fun j u hj => ?_
  rcases get_snoc hj with hj | ⟨rfl, rfl⟩
  · exact l j u hj
  · exact i
theorem Ev_append {o e : Expr} {apos pos : Pos} {i : Nat} {mo0 mo mo' : MO} (hb : baseOk o = true) (hs : notStar e = true) (hlin : Nat.beq apos.endLine pos.line = true) (ho : Ev c o st (.cell i) st1) (hm0 : st1.cells[i]? = some mo0) (hm : listM mo0 = true)
    (he : Ev c e st1 p st2) (hc : st2.cells[i]? = some mo) (ha : Snoc w mo p mo') :
    Ev c (.Call (.Attribute o "append" apos) [e] [] pos) st .none { st2 with cells := st2.cells.set i mo' } := fun W g tk R Q k =>
  MethodCall_ (ho W g tk R _ fun W1 v h1 tk1 l1 ⟨m, cs, R1⟩ i1 => by
    obtain ⟨D, rfl, hD⟩ := Is.cell_inv i1
    obtain ⟨ob, e1, _, im⟩ := R1.cellAt hm0 hD
    obtain ⟨vs0, n0, rfl⟩ := listM_at hm im
    refine listMethod_K R1.news (List.mem_append_left _ (List.mem_of_getElem? e1)) F.slot_list_append F.type_list_append ?_
    refine callWith_method1 (EvL_cons hs he EvL_nil pos W1 h1 tk1 ⟨m, cs, R1⟩ _ fun W2 vs h2 tk2 l2 ⟨m2, cs2, R2⟩ i2 => ?_) (starEach_cons hs) rfl
    obtain ⟨v, rfl, ip⟩ := IsL.one_inv i2
    obtain ⟨o2, e2, _, im2⟩ := R2.cellAt hc (l2.ms i _ hD)
    obtain ⟨vs, n2, rfl, hl, im3⟩ := ha _ _ _ _ im2 ip
    exact append_K R2.fr R2.news (R2.upd e2 _) (fun h' F' N' => k W2 .none h' _ (l1.trans l2) ⟨m2, _, R2.setCell e2 F' N' im3⟩ .none) (by rw [List.size_toArray]; exact size_ok hl)) (meth_eq hb (by rw [List.all_cons, hs]; rfl) rfl hlin)
/-! names stored -/
/-- the state with a name's new value -/
noncomputable def St (c : Act w) (x : Str) (p : PV) (st st' : AS) : Prop := ∀ W h tk v, Rep c W st h → Iv c p W v → ∀ Q : Unit → Shared → Prop, (∀ h' tk', Rep c W st' h' → Q () (c.sh h' tk')) → wpAny c.M c.A (storeName c.env x v) Q never (c.sh h tk)
theorem St_local {x : Str} (hE : c.env.locals = c.L) (hx : isLocal c.cs x = true) : St c x p st { st with loc := setL x p st.loc } := fun W h tk v ⟨m, cs, R⟩ i Q k =>
  wpAny_storeName_local (isLocal_of hx) (by rw [hE]; exact R.fr.ns) (fun h' hn hs => by
    rw [hE] at hn hs
    exact k h' _ ⟨_, cs, R.store i (R.fr.set hn hs) (R.news.set hs)⟩) (by show (c.env.scope.kind == .class || (c.env.scope.kind == .module && _)) = false; rw [c.kind]; rfl)
theorem St_cell {x : Str} {i : Nat} {mo : MO} (hx : isKind c.cs x .cell = true) (hl : lk x st.loc = some (.var i)) (hc : st.cells[i]? = some mo) (hm : (∃ q, mo = .var q) ∨ mo = .novar) : St c x p st { st with cells := st.cells.set i (.var p) } := fun W h tk v ⟨m, cs, R⟩ iv Q k => by
  obtain ⟨a, e1, e2⟩ := var_at R hl
  obtain ⟨o, ec, ho, im⟩ := R.cellAt hc e2
  have hd : ∃ v0, o.data = .cell v0 := by
    rcases hm with ⟨q, rfl⟩ | rfl
    · cases im with | var e _ => exact ⟨_, e⟩
    · cases im with | novar e => exact ⟨_, e⟩
  obtain ⟨v0, hd⟩ := hd
  refine wpAny_storeName_cell c.kind (isKind_of hx) e1 ⟨o, ho, hd⟩ fun h' hv hs => ?_
  obtain ⟨o', ho', hd'⟩ := hv
  obtain ⟨pre, post, e3, e4, a1, b1⟩ := (R.upd ec o').split
  have z := R.news (a, o) (List.mem_append_left _ (List.mem_of_getElem? ec))
  exact k h' _ ⟨m, _, R.setCell ec (R.fr.change hs z.2.1 z.2.2) (by rw [e4]; exact news_set (by rw [← e3]; exact R.news) a1 b1 hs ho') (.var hd' iv)⟩
/-! several targets -/
noncomputable def As (c : Act w) (es : List Expr) (ps : List PV) (st st' : AS) : Prop :=
  ∀ W h tk vs, Rep c W st h → Il c ps W vs → ∀ Q : Unit → Shared → Prop, To c W st' (fun _ _ => True) Q → wpAny c.M c.A (assignInOrder ((assignEach es c.env).map (·.2)) vs) Q never (c.sh h tk)
theorem assignEach_cons {e : Expr} {es : List Expr} {env : Env} (h : notStar e = true) : assignEach (e :: es) env = (false, assign e env) :: assignEach es env := by
  cases e <;> first | rfl | cases h
theorem assignEach_len {es : List Expr} {env : Env} (h : es.all notStar = true) : (assignEach es env).length = es.length ∧ (assignEach es env).findIdx? (·.1) = none := by
  induction es with
  | nil => exact ⟨rfl, rfl⟩
  | cons e es ih =>
    rw [List.all_cons, Bool.and_eq_true] at h
    obtain ⟨h1, h2⟩ := ih h.2
    rw [assignEach_cons h.1]
    exact ⟨congrArg (· + 1) h1, by rw [List.findIdx?_cons, h2]; rfl⟩
theorem As_nil : As c [] [] st st := fun W h tk vs R i Q k => by
  rw [IsL.nil_inv i]
  exact assignInOrder_nil (k W () h tk .rfl R trivial)
theorem As_name {x : Str} {xp : Pos} {es : List Expr} {ps : List PV} (hx : St c x p st st1) (h : As c es ps st1 st2) : As c (.Name x xp :: es) (p :: ps) st st2 := fun W g tk vs R i Q k => by
  obtain ⟨v, vs, rfl, i, l⟩ := IsL.cons_inv i
  rw [assignEach_cons rfl]
  exact assignInOrder_cons (assign_Name (hx W g tk v R i _ fun h' tk' R' => h W h' tk' _ R' l Q k))
theorem As_attr {o : Expr} {attr : Str} {pos : Pos} {es : List Expr} {ps : List PV} {C : Addr} {i : Nat} {fs : List (Str × PV)} (ho : Ev c o st (.mob C i) st1) (hc : st1.cells[i]? = some (.dict fs)) (hk : setOk (KK w) C attr = true) (hn : Nat.ble fs.length 900 = true)
    (h : As c es ps { st1 with cells := st1.cells.set i (.dict (setL attr p fs)) } st2) : As c (.Attribute o attr pos :: es) (p :: ps) st st2 := fun W g tk vs R i Q k => by
  obtain ⟨v, vs, rfl, i, l⟩ := IsL.cons_inv i
  rw [assignEach_cons rfl]
  exact assignInOrder_cons (kas_attr (ho W g tk R _ fun W1 a h1 tk1 l1 R1 i1 => setAttr_wp R1 hc hk hn i1 (Is.up l1 i) fun h' tk' R' => h W1 h' tk' _ R' (IsL.up l1 l) Q (k.up l1)))
noncomputable def notTuple : Expr → Bool
  | .Tuple .. => false
  | _ => true
theorem swapped_none {elts : List Expr} {k : Nat} {tp : Pos} {value : Expr} {env : Env} (h : notTuple value = true) : swappedStores [.Tuple elts k tp] value env = pure none := by
  cases value <;> first | rfl | cases h
theorem Ex1_unpack {elts : List Expr} {k : Nat} {tpos pos : Pos} {value : Expr} {l : List PV} (hm : notComp value = true) (ht : swappedStores [.Tuple elts k tpos] value c.env = pure none) (hs : elts.all notStar = true) (hl : elts.length = l.length) (hv : Ev c value st (.tup l) st1) (ha : As c elts l st1 st2) :
    Ex1 c (.Assign [.Tuple elts k tpos] value pos) st .next st2 := fun W g tk R Q kk =>
  Assign_Tuple (hv W g tk R _ fun W1 v h1 tk1 l1 ⟨m, cs, R1⟩ i1 => by
    obtain ⟨a, n, vs, rfl, hf, il⟩ := i1.tup_inv
    obtain ⟨n1, n2⟩ := assignEach_len (env := c.env) hs
    refine unpackN_ R1.fr R1.news (isT (R1.at hf)) (by exact c.hand) (by rw [n1, hl, il.length, List.size_toArray]) n2 fun h' F' N' => ?_
    exact ha W1 h' _ _ ⟨m, cs, R1.same F' N'⟩ il _ fun W2 _ h2 tk2 l2 R2 _ => kk W2 .next h2 tk2 (l1.trans l2) R2 .next) (by unfold swapsWithSole; exact swaps_eq hm) ht
/-! stores of a written tuple -/
theorem bindAll_wp {W : Wd} (hE : c.env.locals = c.L) {names : List Str} (hx : names.all (isLocal c.cs) = true) : ∀ {ps : List PV} {vs : List Value} {st : AS} {h : Heap} {tk : Nat}, names.length = ps.length → Rep c W st h → Il c ps W vs → ∀ {Q : Unit → Shared → Prop},
    (∀ h' tk', Rep c W { st with loc := (names.zip ps).foldl (fun l x => setL x.1 x.2 l) st.loc } h' → Q () (c.sh h' tk')) → wpAny c.M c.A (assignInOrder (names.map fun n => bindName c.env n) vs) Q never (c.sh h tk) := by
  induction names with
  | nil =>
    intro ps vs st h tk hl R i Q k
    obtain rfl := List.eq_nil_of_length_eq_zero hl.symm
    rw [IsL.nil_inv i]
    exact assignInOrder_nil (k _ _ R)
  | cons x names ih =>
    intro ps vs st h tk hl R i Q k
    rw [List.all_cons, Bool.and_eq_true] at hx
    cases ps with
    | nil => cases hl
    | cons p ps =>
      obtain ⟨v, vs, rfl, i, l⟩ := IsL.cons_inv i
      exact assignInOrder_cons (bindName_ (St_local hE hx.1 W h tk v R i _ fun h' tk' R' => ih hx.2 (Nat.succ.inj hl) R' l k))
theorem IsL.reverse {F : Addr → Obj → Prop} {ms : List Addr} {l vs} (h : IsL w F ms l vs) : IsL w F ms l.reverse vs.reverse := h.ind (P := fun l vs => IsL w F ms l.reverse vs.reverse) .nil fun i _ ih => by
  rw [List.reverse_cons, List.reverse_cons]
  exact ih.append (.cons i .nil)
theorem Ex1_swap {ts vs : List Expr} {k k2 : Nat} {tpos pos p2 : Pos} {l : List PV} {names : List Str} (hn : swappedStores [.Tuple ts k tpos] (.Tuple vs k2 p2) c.env = pure (some names)) (hE : c.env.locals = c.L) (hx : names.all (isLocal c.cs) = true) (hv : Ev c (.Tuple vs k2 p2) st (.tup l) st1) (hl : l.length = names.length) :
    Ex1 c (.Assign [.Tuple ts k tpos] (.Tuple vs k2 p2) pos) st .next { st1 with loc := (names.reverse.zip l.reverse).foldl (fun l x => setL x.1 x.2 l) st1.loc } := fun W g tk R Q kk =>
  Assign_Tuple_swapped (hv W g tk R _ fun W1 v h1 tk1 l1 ⟨m, cs, R1⟩ i1 => by
    obtain ⟨a, n, vs, rfl, hf, il⟩ := i1.tup_inv
    refine unpackItemsN_ R1.fr R1.news (isT (R1.at hf)) (by exact c.hand) (by rw [← hl, il.length, List.size_toArray]) fun h' F' N' => ?_
    exact bindAll_wp hE (by rw [List.all_reverse]; exact hx) (by rw [List.length_reverse, List.length_reverse, hl]) ⟨m, cs, R1.same F' N'⟩ il.reverse fun h'' tk'' R'' => kk W1 .next h'' tk'' l1 R'' .next) (by unfold swapsWithSole; rfl) hn
/-! statements -/
theorem Exs_nil : Exs c [] st .next st := fun W h tk R Q k => wpAny_execs_nil (k W .next h tk .rfl R .next)
theorem Exs_next {s : Stmt} {ss : List Stmt} {f : AF} (h1 : Ex1 c s st .next st1) (h2 : Exs c ss st1 f st2) : Exs c (s :: ss) st f st2 := fun W h tk R Q k =>
  wpAny_execs_cons (h1 W h tk R _ fun W1 v h1' tk1 l1 R1 i1 => by
    cases i1
    exact h2 W1 h1' tk1 R1 _ (k.up l1))
theorem Exs_ret {s : Stmt} {ss : List Stmt} (h1 : Ex1 c s st (.ret p) st1) : Exs c (s :: ss) st (.ret p) st1 := fun W h tk R Q k =>
  wpAny_execs_cons (h1 W h tk R _ fun W1 v h1' tk1 l1 R1 i1 => by
    cases i1 with | ret i => exact k W1 _ h1' tk1 l1 R1 (.ret i))
theorem Exs_brk {s : Stmt} {ss : List Stmt} (h1 : Ex1 c s st .brk st1) : Exs c (s :: ss) st .brk st1 := fun W h tk R Q k =>
  wpAny_execs_cons (h1 W h tk R _ fun W1 v h1' tk1 l1 R1 i1 => by
    cases i1; exact k W1 _ h1' tk1 l1 R1 .brk)
theorem Exs_cont {s : Stmt} {ss : List Stmt} (h1 : Ex1 c s st .cont st1) : Exs c (s :: ss) st .cont st1 := fun W h tk R Q k =>
  wpAny_execs_cons (h1 W h tk R _ fun W1 v h1' tk1 l1 R1 i1 => by
    cases i1; exact k W1 _ h1' tk1 l1 R1 .cont)
theorem Ex1_if {t : Expr} {a b : List Stmt} {pos : Pos} {f : AF} (h : Ts c t st true st1) (h2 : Exs c a st1 f st2) : Ex1 c (.If t a b pos) st f st2 := fun W g tk R Q k =>
  wpAny_If (h W g tk R _ fun W1 b' h1 tk1 l1 R1 e => by cases e; exact h2 W1 h1 tk1 R1 _ (k.up l1))
theorem Ex1_else {t : Expr} {a b : List Stmt} {pos : Pos} {f : AF} (h : Ts c t st false st1) (h2 : Exs c b st1 f st2) : Ex1 c (.If t a b pos) st f st2 := fun W g tk R Q k =>
  wpAny_If (h W g tk R _ fun W1 b' h1 tk1 l1 R1 e => by cases e; exact h2 W1 h1 tk1 R1 _ (k.up l1))
theorem Ex1_ret {e : Expr} {pos : Pos} (h : Ev c e st p st1) : Ex1 c (.Return (some e) pos) st (.ret p) st1 := fun W g tk R Q k =>
  wpAny_Return_some (h W g tk R _ fun W1 v h1 tk1 l1 R1 i1 => k W1 _ h1 tk1 l1 R1 (.ret i1))
theorem Ex1_expr {e : Expr} {pos : Pos} (hc : notComp e = true) (h : Ev c e st p st1) : Ex1 c (.Expr e pos) st .next st1 := fun W g tk R Q k =>
  wpAny_Expr_any (h W g tk R _ fun W1 v h1 tk1 l1 R1 i1 => k W1 _ h1 tk1 l1 R1 .next) (by
    unfold interactive
    show (c.cs.kind == .module && _) = false
    rw [c.kind]; rfl) (swaps_eq hc)
theorem Ex1_try {b : List Stmt} {h0 : ExceptHandler} {hs : List ExceptHandler} {pos : Pos} (h : Exs c b st (.ret p) st1) : Ex1 c (.Try b (h0 :: hs) [] [] pos) st (.ret p) st1 := fun W g tk R Q k =>
  wpAny_Try_except (wpAny_mono (h W g tk R _ fun W1 v h1 tk1 l1 R1 i1 => by
    cases i1 with | ret i => exact k W1 _ h1 tk1 l1 R1 (.ret i)) (fun _ _ x => x) (fun _ _ x => x.elim))
/-! while -/
noncomputable def Whl (c : Act w) (t : Expr) (b : List Stmt) (st : AS) (f : AF) (st' : AS) : Prop :=
  ∀ W h tk, Rep c W st h → ∀ Q : Flow → Shared → Prop, To c W st' (Ifl c f) Q → WhlRest c.prog w c.A never c.env t b [] Q 0 (c.sh h tk)
theorem Ex1_while {t : Expr} {b : List Stmt} {pos : Pos} {f : AF} (h : Whl c t b st f st1) : Ex1 c (.While t b [] pos) st f st1 := fun W g tk R Q k => whl_start 0 (h W g tk R Q k)
theorem Whl_no {t : Expr} {b : List Stmt} (h : Ts c t st false st1) : Whl c t b st .next st1 := fun W g tk R Q k =>
  whl_turn (k := 0) PassesOwn.never (h W g tk R _ fun W1 b' h1 tk1 l1 R1 e => WhlIf.no e (wpAny_execs_nil (k W1 .next h1 tk1 l1 R1 .next)))
theorem Whl_ret {t : Expr} {b : List Stmt} (h : Ts c t st true st1) (h2 : Exs c b st1 (.ret p) st2) : Whl c t b st (.ret p) st2 := fun W g tk R Q k =>
  whl_turn (k := 0) PassesOwn.never (h W g tk R _ fun W1 b' h1 tk1 l1 R1 e => WhlIf.yes e (h2 W1 h1 tk1 R1 _ fun W2 v h2' tk2 l2 R2 i2 => by
    cases i2 with | ret i2 => exact k W2 _ h2' tk2 (l1.trans l2) R2 (.ret i2)))
theorem Whl_next {t : Expr} {b : List Stmt} {f : AF} (h : Ts c t st true st1) (h2 : Exs c b st1 .next st2) (h3 : Whl c t b st2 f st3) : Whl c t b st f st3 := fun W g tk R Q k =>
  whl_turn (k := 0) PassesOwn.never (h W g tk R _ fun W1 b' h1 tk1 l1 R1 e => WhlIf.yes e (h2 W1 h1 tk1 R1 _ fun W2 v h2' tk2 l2 R2 i2 => by
    cases i2
    exact h3 W2 h2' tk2 R2 Q (k.up (l1.trans l2))))
end
end

end
noncomputable section
noncomputable section
/-- the cells from k on are laid into the value -/
noncomputable def fz : Nat → List MO → Nat → PV → PV
  | 0, _, _, _ => .any
  | n + 1, cells, k, p => match p with
    | .cell i => match Nat.blt i k with
      | true => .cell i
      | false => match cells[i]? with
        | some (.list l) => .list (l.map (fz n cells k))
        | some (.seq m f) => .seq m (fun j => fz n cells k (f j))
        | _ => .any
    | .mob C i => match Nat.blt i k with
      | true => .mob C i
      | false => match cells[i]? with
        | some (.dict fs) => .inst C (fs.map fun x => (x.1, fz n cells k x.2))
        | _ => .any
    | .tup l => .tup (l.map (fz n cells k))
    | .list l => .list (l.map (fz n cells k))
    | .seq m f => .seq m (fun j => fz n cells k (f j))
    | .inst C fs => .inst C (fs.map fun x => (x.1, fz n cells k x.2))
    | p => p
noncomputable def fzM (n : Nat) (cells : List MO) (k : Nat) : MO → MO
  | .list l => .list (l.map (fz n cells k))
  | .seq m f => .seq m (fun j => fz n cells k (f j))
  | .dict fs => .dict (fs.map fun x => (x.1, fz n cells k x.2))
  | .var p => .var (fz n cells k p)
  | .ns x p => .ns x (fz n cells k p)
  | mo => mo
/-- the first k cells alone: what is known of the others -/
structure Cut (w : World) (cells : List MO) (k : Nat) (F F' : Addr → Obj → Prop) (cs : List (Addr × Obj)) : Prop where
  hF : ∀ a o, F a o → F' a o
  hk : ∀ (i : Nat) a o, k ≤ i → cs[i]? = some (a, o) → F' a o
  len : cells.length = cs.length
  hc : ∀ (i : Nat) mo, cells[i]? = some mo → ∃ a o, cs[i]? = some (a, o) ∧ IsM w F (cs.map (·.1)) mo o
/-- p, seen with the cells, is r, seen with the first k cells alone -/
noncomputable def Drop (w : World) (cells : List MO) (k : Nat) (p r : PV) : Prop := ∀ F F' cs, Cut w cells k F F' cs → ∀ v, Is w F (cs.map (·.1)) p v → Is w F' ((cs.take k).map (·.1)) r v
noncomputable def DropM (w : World) (cells : List MO) (k : Nat) (p r : MO) : Prop := ∀ F F' cs, Cut w cells k F F' cs → ∀ v, IsM w F (cs.map (·.1)) p v → IsM w F' ((cs.take k).map (·.1)) r v
section
variable {w : World} {cells : List MO} {k : Nat} {p : PV}
theorem cut_lt {cs : List (Addr × Obj)} {i : Nat} {a : Addr} (h : Nat.blt i k = true) (e : (cs.map (·.1))[i]? = some a) : ((cs.take k).map (·.1))[i]? = some a := by
  rw [List.map_take, List.getElem?_take_of_lt (Nat.le_of_ble_eq_true h)]
  exact e
theorem cut_ge {i : Nat} (h : Nat.blt i k = false) : k ≤ i := Nat.le_of_not_lt fun q => by
  have : Nat.blt i k = true := Nat.ble_eq_true_of_le q
  rw [this] at h; cases h
theorem Cut.at {F F' : Addr → Obj → Prop} {cs : List (Addr × Obj)} (H : Cut w cells k F F' cs) {i : Nat} {a : Addr} {mo : MO} (e1 : (cs.map (·.1))[i]? = some a) (e2 : cells[i]? = some mo) (h : Nat.blt i k = false) : ∃ o, F' a o ∧ IsM w F (cs.map (·.1)) mo o := by
  obtain ⟨b, o, e3, im⟩ := H.hc _ _ e2
  rw [List.getElem?_map, e3] at e1
  cases e1
  exact ⟨o, H.hk _ _ _ (cut_ge h) e3, im⟩
theorem Drop.fz {n : Nat} : ∀ p : PV, Drop w cells k p (Mine.fz n cells k p) := by
  induction n with
  | zero => exact fun p F F' cs H v i => .any i.handed
  | succ n ih =>
    intro p F F' cs H v i
    have il := fun p v => ih p F F' cs H v
    cases i with
    | int => exact .int
    | bool => exact .bool
    | sbool => exact .sbool
    | none => exact .none
    | str => exact .str
    | glob h => exact .glob h
    | any h => exact .any h
    | anyi => exact .anyi
    | tup h l => exact .tup (H.hF _ _ h) (l.conv il)
    | list h l => exact .list (H.hF _ _ h) (l.conv il)
    | seq h e l => exact .seq (H.hF _ _ h) e (fun j u q => il _ _ (l j u q))
    | inst h h2 l => exact .inst (H.hF _ _ h) (H.hF _ _ h2) (l.conv il)
    | obj h => exact .obj (fun g hg => h g (fun b o q => hg b o (H.hF b o q)))
    | @cell i a h =>
      unfold Mine.fz
      dsimp only
      cases hb : Nat.blt i k with
      | true => exact .cell (cut_lt hb h)
      | false =>
        cases e : cells[i]? with
        | none => exact .any rfl
        | some mo =>
          obtain ⟨o, ho, im⟩ := H.at h e hb
          cases im with
          | list l => exact .list ho (l.conv il)
          | seq e2 l => exact .seq ho e2 (fun j u q => il _ _ (l j u q))
          | _ => exact .any rfl
    | @mob C i a d h0 h =>
      unfold Mine.fz
      dsimp only
      cases hb : Nat.blt i k with
      | true => exact .mob (H.hF _ _ h0) (cut_lt hb h)
      | false =>
        cases e : cells[i]? with
        | none => exact .any rfl
        | some mo =>
          obtain ⟨o, ho, im⟩ := H.at h e hb
          cases im with
          | dict l => exact .inst (H.hF _ _ h0) ho (l.conv il)
          | _ => exact .any rfl
theorem DropM.fz {n : Nat} {p : MO} : DropM w cells k p (fzM n cells k p) := fun F F' cs H v im => by
  have f := fun p v => Drop.fz (w := w) (n := n) p F F' cs H v
  cases im with
  | list l => exact .list (l.conv f)
  | seq e1 l => exact .seq e1 (fun j u q => f _ _ (l j u q))
  | dict l => exact .dict (l.conv f)
  | raw => exact .raw
  | var e i => exact .var e (f _ _ i)
  | novar e => exact .novar e
  | ns a b i => exact .ns a b (f _ _ i)
theorem Drop.all : Drop w cells cells.length p p := fun F F' cs H v i => by
  rw [H.len, List.take_length]; exact i.mono H.hF (fun _ _ q => q)
theorem DropM.all {p : MO} : DropM w cells cells.length p p := fun F F' cs H v i => by
  rw [H.len, List.take_length]; exact i.mono H.hF (fun _ _ q => q)
/-- the state with its first k cells alone -/
structure Fz (w : World) (st1 : AS) (k : Nat) (st2 : AS) : Prop where
  le : k ≤ st1.cells.length
  len : st2.cells.length = k
  loc : ∀ x r, lk x st2.loc = some r → ∃ p, lk x st1.loc = some p ∧ ((∃ i, (p = .var i ∨ p = .nsv i) ∧ r = p ∧ i < k) ∨ ((∀ i, p ≠ .var i ∧ p ≠ .nsv i) ∧ Drop w st1.cells k p r))
  cells : ∀ (i : Nat) r, st2.cells[i]? = some r → ∃ p, st1.cells[i]? = some p ∧ DropM w st1.cells k p r
variable {c : Act w} {st1 st2 : AS} {W : Wd} {h : Heap} {m : Str → Option Value} {cs : List (Addr × Obj)}
theorem RepX.cut (R : RepX c W st1 h m cs) (k : Nat) : Cut w st1.cells k (W.fact c.F) (Wd.fact ⟨cs.drop k ++ W.fr, W.ms.take k⟩ c.F) cs where
  hF := fun a o q => q.elim .inl fun q => .inr (List.mem_append_right _ q)
  hk := fun i a o hi e => .inr (List.mem_append_left _ (List.mem_of_getElem? (i := i - k) (by rw [List.getElem?_drop, Nat.add_sub_cancel' hi]; exact e)))
  len := R.len
  hc := by rw [R.ms]; exact R.cells
theorem RepX.freeze (R : RepX c W st1 h m cs) (Z : Fz w st1 k st2) : RepX c ⟨cs.drop k ++ W.fr, W.ms.take k⟩ st2 h m (cs.take k) := by
  have H := R.cut k
  have ems : (cs.take k).map (·.1) = W.ms.take k := by rw [List.map_take, R.ms]
  have nd := R.nodup
  rw [← List.take_append_drop k W.ms] at nd
  obtain ⟨nd1, nd2, nd3⟩ := List.nodup_append.mp nd
  refine ⟨R.fr, fun p hp => R.news p ?_, ems, nd1, fun p hp hm => ?_, fun x r e => ?_, ?_, fun i r e => ?_⟩
  · rcases List.mem_append.mp hp with hp | hp
    · exact List.mem_append_left _ (List.mem_of_mem_take hp)
    · rcases List.mem_append.mp hp with hp | hp
      · exact List.mem_append_left _ (List.mem_of_mem_drop hp)
      · exact List.mem_append_right _ hp
  · rcases List.mem_append.mp hp with hp | hp
    · refine nd3 _ hm _ ?_ rfl
      rw [← R.ms, ← List.map_drop]
      exact List.mem_map_of_mem hp
    · exact R.sep p hp (List.mem_of_mem_take hm)
  · obtain ⟨p, e1, h1⟩ := Z.loc x r e
    have tk : ∀ {i a}, i < k → W.ms[i]? = some a → (W.ms.take k)[i]? = some a := fun hi e => by rw [List.getElem?_take_of_lt hi]; exact e
    cases R.loc x p e1 with
    | frame iv hv =>
      rcases h1 with ⟨i, h1, rfl, hi⟩ | ⟨hf, h1⟩
      · rcases h1 with rfl | rfl
        · exact iv.var_no.elim
        · exact iv.nsv_no.elim
      · have := h1 _ _ cs H _ (by rw [R.ms]; exact iv)
        rw [ems] at this
        exact .frame this hv
    | @var j a n e3 e4 =>
      rcases h1 with ⟨i, h1, rfl, hi⟩ | ⟨hf, h1⟩
      · rcases h1 with h1 | h1
        · cases h1; exact .var n e3 (tk hi e4)
        · cases h1
      · exact absurd rfl (hf j).1
    | @nsv j n e3 =>
      rcases h1 with ⟨i, h1, rfl, hi⟩ | ⟨hf, h1⟩
      · rcases h1 with h1 | h1
        · cases h1
        · cases h1; exact .nsv n (tk hi e3)
      · exact absurd rfl (hf j).2
  · rw [Z.len, List.length_take, ← R.len]; exact (Nat.min_eq_left Z.le).symm
  · obtain ⟨p, e1, h1⟩ := Z.cells i r e
    obtain ⟨a, o, e2, im⟩ := R.cells i p e1
    have hi : i < k := by rw [← Z.len]; exact (List.getElem?_eq_some_iff.mp e).1
    refine ⟨a, o, by rw [List.getElem?_take_of_lt hi]; exact e2, ?_⟩
    have := h1 _ _ cs H o (by rw [R.ms]; exact im)
    rw [ems] at this; exact this
theorem Ex1.freeze {s : Stmt} {st : AS} (h1 : Ex1 c s st .next st1) (Z : Fz w st1 k st2) (hk : Nat.ble st.cells.length k = true) : Ex1 c s st .next st2 := fun W h tk R Q kk => h1 W h tk R Q fun W1 v h1 tk1 l1 ⟨m, cs, R1⟩ i1 =>
  kk ⟨cs.drop k ++ W1.fr, W1.ms.take k⟩ v h1 tk1 ⟨fun p q => List.mem_append_right _ (l1.fr p q), fun i a q => by
    obtain ⟨m, cs, R⟩ := R
    have hi := (List.getElem?_eq_some_iff.mp q).1
    rw [← R.ms, List.length_map, ← R.len] at hi
    show (W1.ms.take k)[i]? = _
    rw [List.getElem?_take_of_lt (Nat.lt_of_lt_of_le hi (Nat.le_of_ble_eq_true hk))]
    exact l1.ms i a q⟩ ⟨m, cs.take k, R1.freeze Z⟩ (by cases i1; exact .next)
/-- computed -/
noncomputable def fzV (n : Nat) (cells : List MO) (k : Nat) : PV → PV
  | .var i => .var i
  | .nsv i => .nsv i
  | p => fz n cells k p
noncomputable def varOk (k : Nat) : PV → Bool
  | .var i => Nat.blt i k
  | .nsv i => Nat.blt i k
  | _ => true
noncomputable def fzS (n : Nat) (st : AS) (k : Nat) : AS := ⟨st.loc.map fun x => (x.1, fzV n st.cells k x.2), (st.cells.take k).map (fzM n st.cells k)⟩
theorem lk_map {α β : Type} {g : α → β} {x : Str} {l : List (Str × α)} : lk x (l.map fun y => (y.1, g y.2)) = (lk x l).map g := by
  induction l with
  | nil => rfl
  | cons y l ih =>
    show cond (strEq x y.1) (some (g y.2)) (lk x (l.map fun y => (y.1, g y.2))) = (cond (strEq x y.1) (some y.2) (lk x l)).map g
    rw [ih]
    cases strEq x y.1 <;> rfl
theorem lk_all {α : Type} {P : Str × α → Bool} {x : Str} {v : α} {l : List (Str × α)} (h : l.all P = true) (e : lk x l = some v) : ∃ y, P (y, v) = true := by
  induction l with
  | nil => cases e
  | cons y l ih =>
    rw [List.all_cons, Bool.and_eq_true] at h
    have e : cond (strEq x y.1) (some y.2) (lk x l) = some v := e
    cases hs : strEq x y.1 with
    | true => rw [hs] at e; cases e; exact ⟨y.1, h.1⟩
    | false => rw [hs] at e; exact ih h.2 e
theorem Fz.of {n : Nat} (hk : Nat.ble k st1.cells.length = true) (hv : (st1.loc.all fun x => varOk k x.2) = true) : Fz w st1 k (fzS n st1 k) where
  le := Nat.le_of_ble_eq_true hk
  len := by show (List.map _ _).length = _; rw [List.length_map, List.length_take]; exact Nat.min_eq_left (Nat.le_of_ble_eq_true hk)
  loc := fun x r e => by
    rw [show lk x (fzS n st1 k).loc = (lk x st1.loc).map (fzV n st1.cells k) from lk_map] at e
    cases e1 : lk x st1.loc with
    | none => rw [e1] at e; cases e
    | some p =>
      rw [e1] at e
      cases e
      obtain ⟨_, ho⟩ := lk_all hv e1
      refine ⟨p, rfl, ?_⟩
      cases p <;> first | exact .inr ⟨fun i => ⟨PV.noConfusion, PV.noConfusion⟩, Drop.fz _⟩ | exact .inl ⟨_, .inl rfl, rfl, Nat.le_of_ble_eq_true ho⟩ | exact .inl ⟨_, .inr rfl, rfl, Nat.le_of_ble_eq_true ho⟩
  cells := fun i r e => by
    rw [show (fzS n st1 k).cells = (st1.cells.take k).map (fzM n st1.cells k) from rfl, List.getElem?_map] at e
    cases e2 : (st1.cells.take k)[i]? with
    | none => rw [e2] at e; cases e
    | some mo0 =>
      rw [e2] at e
      cases e
      have hi := (List.getElem?_eq_some_iff.mp e2).1
      rw [List.length_take] at hi
      rw [List.getElem?_take_of_lt (Nat.lt_of_lt_of_le hi (Nat.min_le_left _ _))] at e2
      exact ⟨_, e2, DropM.fz⟩
end
end

end
noncomputable section
noncomputable section
section
variable {w : World} (x : Cx w)
noncomputable def StG (nm : Str) (p : PV) (st st' : AS) : Prop := ∀ c, x.At c → St c nm p st st'
noncomputable def AsG (es : List Expr) (ps : List PV) (st st' : AS) : Prop := ∀ c, x.At c → As c es ps st st'
noncomputable def WhlG (t : Expr) (b : List Stmt) (st : AS) (f : AF) (st' : AS) : Prop := ∀ c, x.At c → Whl c t b st f st'
noncomputable def EvAG (es : List Expr) (st : AS) (ps : List PV) (st' : AS) : Prop := ∀ c, x.At c → EvA c es st ps st'
noncomputable def BCallG (id : Value) (ps : List PV) (st : AS) (r : PV) (st' : AS) : Prop := ∀ c, x.At c → BCall c id ps st r st'
structure Evs where
  e : ∀ e st, List Ora → Res (EvG x e st)
  l : ∀ es st, List Ora → Res (EvLG x es st)
  t : ∀ e st, List Ora → Res (TsG x e st)
  s : ∀ s st, List Ora → Res (Ex1G x s st)
  b : ∀ b st, List Ora → Res (ExsG x b st)
  w : ∀ t b st, List Ora → Res (WhlG x t b st)
  a : ∀ es ps st, List Ora → Res fun (_ : Unit) st' => AsG x es ps st st'
section
variable {α : Type} {P : α → AS → Prop}
noncomputable def gf (b : Bool) (k : b = false → Res P) : Res P := Bool.rec (motive := fun b' => (b' = false → Res P) → Res P) (fun k => k rfl) (fun _ => none) b k
end
noncomputable def evF (e : Expr) (st : AS) (o : List Ora) : Res (EvG x e st) := match o with
  | .ev p st' :: o' => owe p st' o' [EvG x e st p st'] fun h => h.1
  | _ => none
noncomputable def stF (s : Stmt) (st : AS) (o : List Ora) : Res (Ex1G x s st) := match o with
  | .st f st' :: o' => owe f st' o' [Ex1G x s st f st'] fun h => h.1
  | _ => none
noncomputable def argsC (ih : Evs x) (es : List Expr) (st : AS) (o : List Ora) : Res (EvAG x es st) := match es with
  | [] => ret [] st o fun _ _ => .inl ⟨rfl, rfl, rfl⟩
  | e :: es => gd ((e :: es).all notStar) fun hs => (ih.l (e :: es) st o).bind fun ps st o => ret ps st o fun h c hc => .inr ⟨fun e => (nomatch e), hs, h c hc⟩
/-- one call, its answer by the oracle -/
noncomputable def Called (f : Addr) (ps : List PV) (st : AS) (r : PV) (st' : AS) : Prop := ∃ cells, st' = { st with cells := cells } ∧ CallTo x.g x.n f ps st.cells r cells
noncomputable def toC (f : Addr) (ps : List PV) (st : AS) (o : List Ora) : Res (Called x f ps st) := match o with
  | .call r cells :: o' => owe r { st with cells := cells } o' [CallTo x.g x.n f ps st.cells r cells] fun h => ⟨cells, rfl, h.1⟩
  | _ => none
theorem Called.at {x : Cx w} {c : Act w} (hc : x.At c) {f : Addr} {ps : List PV} {st st' : AS} {r : PV} (h : Called x f ps st r st') : ∃ cells, st' = { st with cells := cells } ∧ CallTo c.toGl c.n f ps st.cells r cells := by
  obtain ⟨cells, e, h⟩ := h
  rw [← hc.gl, ← hc.n] at h
  exact ⟨cells, e, h⟩
noncomputable def bcallC (id : String) (ps : List PV) (st : AS) (o : List Ora) : Res (BCallG x (.builtin id) ps st) := match ps with
  | [p] => dite (id = "len") (fun hid => opt (itsOf st p) fun t ht => owe (.int t.len) st o [t.len ≤ 1000] fun h c hc => hid ▸ BCall_len ht h.1) fun _ => bF [p]
  | [.int a, .int b] => dite (id = "max") (fun hid => ret (.int (max a b)) st o fun c hc => hid ▸ BCall_max) fun _ => dite (id = "min") (fun hid => ret (.int (min a b)) st o fun c hc => hid ▸ BCall_min) fun _ => none
  | ps => bF ps
where bF (ps : List PV) : Res (BCallG x (.builtin id) ps st) := match o with
  | .ev r st' :: o' => owe r st' o' [BCallG x (.builtin id) ps st r st'] fun h => h.1
  | _ => none
/-- x[k]: a written number, -1, or a number within -/
noncomputable def last? : Expr → Bool
  | .UnaryOp .USub (.Constant (.int (.ofNat 1)) _ _) _ => true
  | _ => false
noncomputable def itemC (v s : Expr) (hs : notSlice s = true) (p q : PV) (st : AS) (o : List Ora) : Res fun r st' => OpG x (subscriptTail v s) st p q r st' := match q with
  | .int z => match p with
    | .tup l => match z with
      | .ofNat k => gd (Nat.ble k 1000) fun hk => opt (l[k]?) fun r hr => ret r st o fun c _ => It_tup hs hk hr
      | _ => none
    | p => opt (itsOf st p) fun t ht => match last? s with
      | true => match t with
        | .li l => gd (Nat.ble l.length 1000) fun hl => gd (z == -1) fun hz => opt (l[l.length - 1]?) fun r hr => ret r st o fun c _ => by
            obtain rfl := eq_of_beq hz
            exact It_last hs ht (Nat.le_of_ble_eq_true hl) hr (Nat.lt_of_le_of_lt (Nat.zero_le _) (List.getElem?_eq_some_iff.mp hr).1)
        | .sq k f => gd (z == -1) fun hz => owe (f (k - 1)) st o [0 < k ∧ k ≤ 1000] fun h c _ => by
            obtain rfl := eq_of_beq hz
            exact It_last hs ht h.1.2 (Its.at_sq (Nat.sub_lt h.1.1 Nat.one_pos)) h.1.1
      | false => match t with
        | .li l => match z with
          | .ofNat k => gd (Nat.ble k 1000) fun hk => opt (l[k]?) fun r hr => ret r st o fun c _ => It_item hs ht (Int.natCast_nonneg k) (Int.ofNat_lt.mpr (Nat.lt_of_le_of_lt (Nat.le_of_ble_eq_true hk) (by decide))) hr
          | _ => none
        | .sq k f => owe (f z.toNat) st o [0 ≤ z ∧ z < k ∧ z < 1000000] fun h c _ => It_item hs ht h.1.1 h.1.2.2 (Its.at_sq ((Int.toNat_lt h.1.1).mpr h.1.2.1))
  | _ => none
noncomputable def snocC (mo : MO) (p : PV) (st : AS) (o : List Ora) : Res fun (mo' : MO) st' => Snoc w mo p mo' ∧ st' = st := match mo with
  | .list l => gd (Nat.ble l.length 1000) fun hl => ret (.list (l ++ [p])) st o ⟨.list hl, rfl⟩
  | .seq k f => owe (.seq (k + 1) f) st o [f k = p ∧ k ≤ 1000] fun h => ⟨.seq h.1, rfl⟩
  | _ => none
noncomputable def swR (sc : Scope) (ts vs : List Expr) : Option (List Str) :=
  cond (!(ts.length == 2 || ts.length == 3) || vs.length != ts.length) none (cond (vs.any fun | .Starred .. => true | _ => false) none (
    let line := (ts.head?.map (·.pos.line)).getD 0
    let names := ts.filterMap fun
      | .Name id pos => if sc.names.lookup id == some .local && pos.line == line then some id else none
      | _ => none
    cond (names.length != ts.length || names.eraseDups.length != names.length) none (cond (vs.all (foldedForSure 8)) none (some names))))
theorem swR_eq {c : Act w} {ts vs : List Expr} {k k2 : Nat} {tp p2 : Pos} (h : (vs.all (constantsAlone 8)) = false) : swappedStores [.Tuple ts k tp] (.Tuple vs k2 p2) c.env = pure (swR c.cs ts vs) := by
  have hb : c.env.blockKind = .function := by
    unfold Env.blockKind
    show (if c.cs.kind.isAnnotationScope = true then ScopeKind.function else c.cs.kind) = _
    rw [c.kind]; rfl
  have key : ∀ (b1 b2 b3 b4 b5 : Bool) (names : List Str) (f : ScopeKind), f = .function → b5 = false →
      (do if b1 || f != .function then return none
          if b2 then return none
          if b3 then return none
          if b4 then return none
          if b5 then unsupported "assign.tuple-of-constant-expressions:order-of-the-stores"
          return some names : Sem (Option (List Str))) = pure (cond b1 none (cond b2 none (cond b3 none (cond b4 none (some names))))) := by
    intro b1 b2 b3 b4 b5 names f hf h5
    subst hf h5
    cases b1 <;> cases b2 <;> cases b3 <;> cases b4 <;> rfl
  exact key _ _ _ _ _ _ _ hb h
noncomputable def assignOk (sc : Scope) (nm : Str) (v : Expr) : Bool := notComp v || isKind sc nm .cell
theorem swaps_cell {c : Act w} {v : Expr} {nm : Str} {np : Pos} {n : Nat} (h : assignOk c.cs nm v = true) : swapsWith v (some (.Name nm np)) n c.env = pure false := by
  rcases Bool.or_eq_true _ _ ▸ h with h | h
  · exact swaps_eq h
  · have hk : c.env.kindOf nm = some .cell := isKind_of h
    cases v <;> first
      | rfl
      | (unfold swapsWith
         dsimp only
         rw [hk, show (some NameKind.cell == some NameKind.local) = false from rfl, Bool.and_false, Bool.false_and, Bool.false_and])
theorem Ex1_assign2 {c : Act w} {st st1 st2 : AS} {p : PV} {nm : Str} {xp pos : Pos} {value : Expr} (hc : assignOk c.cs nm value = true) (h : Ev c value st p st1) (hx : St c nm p st1 st2) : Ex1 c (.Assign [.Name nm xp] value pos) st .next st2 := fun W g tk R Q k =>
  wpAny_Assign_Name (h W g tk R _ fun W1 v h1 tk1 l1 R1 i1 => hx W1 h1 tk1 v R1 i1 _ fun h' tk' R' => k W1 .next h' tk' l1 R' .next) (swaps_cell hc)
noncomputable def storeC (nm : Str) (p : PV) (st : AS) (o : List Ora) : Res fun (_ : Unit) st' => StG x nm p st st' := opc (cond (isLocal x.sc nm) (some ()) none) (fun _ => opt (lk nm st.loc) fun q hl => match q, hl with
  | .var i, hl => gd (isKind x.sc nm .cell) fun hk => opt (st.cells[i]?) fun mo hm => match mo, hm with
    | .var q, hm => ret () { st with cells := st.cells.set i (.var p) } o fun c hc => St_cell (hc.sc ▸ hk) hl hm (.inl ⟨q, rfl⟩)
    | .novar, hm => ret () { st with cells := st.cells.set i (.var p) } o fun c hc => St_cell (hc.sc ▸ hk) hl hm (.inr rfl)
    | _, _ => none
  | _, _ => none) fun _ _ => gd x.fn fun hf => gd (isLocal x.sc nm) fun hx => ret () { st with loc := setL nm p st.loc } o fun c hc => St_local (hc.fn hf) (hc.sc ▸ hx)
noncomputable def callN (ih : Evs x) (nm : Str) (xp : Pos) (es : List Expr) (pos : Pos) (st : AS) (o : List Ora) : Res (EvG x (.Call (.Name nm xp) es [] pos) st) := match o with
  | .cx p st2 :: o2 => owe p st2 o2 [EvG x (.Call (.Name nm xp) es [] pos) st p st2] fun h => h.1
  | o => (nameC x nm st o).bind fun v st' o' => match v with
    | .glob (.ref f) => gd (keepIn (KK w) (.ref f)) fun hk => (argsC x ih es st' o').bind fun ps st o => (toC x f ps st o).bind fun r st o => ret r st o fun h3 h2 h1 c hc => by
        obtain ⟨cells, rfl, h4⟩ := h3.at hc
        exact Ev_call (h1 xp c hc) hk (h2 c hc) h4
    | .glob (.builtin id) => match es with
      | [] => none
      | e :: es => gd ((e :: es).all notStar) fun hs => (ih.l (e :: es) st' o').bind fun ps st o => (bcallC x id ps st o).bind fun r st o => ret r st o fun h3 h2 h1 c hc => Ev_bcall (h1 xp c hc) hs (h2 c hc) (h3 c hc)
    | .glob (.type T) => match es with
      | [a] => dite (T = "range") (fun hT => gd (notStar a) fun hs => (ih.e a st' o').bind fun p st o => match p with
        | .int z => ret (rangeP z) st o fun h2 h1 c hc => Ev_range (hT ▸ h1 xp c hc) hs (h2 c hc)
        | _ => none) fun _ => none
      | _ => none
    | _ => (evF x (.Call (.Name nm xp) es [] pos) st o').bind fun p st o => ret p st o fun h _ => h
noncomputable def stepE (ih : Evs x) (e : Expr) (st : AS) (o : List Ora) : Res (EvG x e st) := match e with
  | .Name nm pos => (nameC x nm st o).bind fun p st o => ret p st o fun h => h pos
  | .Constant (.int i) _ _ => ret (.int i) st o fun c _ => Ev_int
  | .Constant .none _ _ => ret .none st o fun c _ => Ev_none
  | .Constant (.bool b) _ _ => ret (.bool b) st o fun c _ => Ev_bool
  | .Constant (.str s) _ _ => ret (.str s) st o fun c _ => Ev_str
  | .Tuple es _ _ => (ih.l es st o).bind fun ps st o => gd (Nat.ble ps.length 1000) fun hn => ret (.tup ps) st o fun h c hc => Ev_tuple (h c hc) hn
  | .List es _ => (ih.l es st o).bind fun ps st o => gd (Nat.ble ps.length 1000) fun hn => ret (.cell st.cells.length) { st with cells := st.cells ++ [.list ps] } o fun h c hc => Ev_list (h c hc) hn
  | .BinOp l op r _ => (ih.e l st o).bind fun p st o => (ih.e r st o).bind fun q st o => (binC x op p q st o).bind fun z st o => ret z st o fun h3 h2 h1 c hc => Ev_bin (h1 c hc) (h2 c hc) (h3 c hc)
  | .UnaryOp .USub a _ => (ih.e a st o).bind fun p st o => match p with
    | .int z => ret (.int (-z)) st o fun h c hc => Ev_neg (h c hc)
    | _ => none
  | .Compare l [op] [r] _ => gf (behindInMarks op r) fun hm => (ih.e l st o).bind fun p st o => (ih.e r st o).bind fun q st o => (cmpC x op p q st o).bind fun z st o => ret z st o fun h3 h2 h1 c hc => Ev_cmp hm (h1 c hc) (h2 c hc) (h3 c hc)
  | .Compare l [op, op2] [r1, r2] _ => gf (lastMarks [op, op2] [r1, r2]) fun hm => (ih.e l st o).bind fun p st o => (ih.e r1 st o).bind fun q st o => (cmpC x op p q st o).bind fun u st o => (truR u st o).bind fun b _ o => match b with
    | false => ret u st o fun ht h3 h2 h1 c hc => Ev_chain_no hm (h1 c hc) (h2 c hc) (h3 c hc) ht.1
    | true => (ih.e r2 st o).bind fun r st o => (cmpC x op2 q r st o).bind fun v st o => ret v st o fun h5 h4 ht h3 h2 h1 c hc => Ev_chain_yes hm (h1 c hc) (h2 c hc) (h3 c hc) ht.1 (h4 c hc) (h5 c hc)
  | .BoolOp op [a] _ => (ih.e a st o).bind fun p st o => ret p st o fun h c hc => Ev_bool1 (h c hc)
  | .BoolOp op (a :: b :: r) pos => (ih.e a st o).bind fun p st o => (truR p st o).bind fun t _ o => match op, t with
    | .And, true => (ih.e (.BoolOp .And (b :: r) pos) st o).bind fun q st o => ret q st o fun h2 ht h1 c hc => Ev_and_yes (h1 c hc) ht.1 (h2 c hc)
    | .And, false => ret p st o fun ht h1 c hc => Ev_and_no (h1 c hc) ht.1
    | .Or, true => ret p st o fun ht h1 c hc => Ev_or_yes (h1 c hc) ht.1
    | .Or, false => (ih.e (.BoolOp .Or (b :: r) pos) st o).bind fun q st o => ret q st o fun h2 ht h1 c hc => Ev_or_no (h1 c hc) ht.1 (h2 c hc)
  | .IfExp t a b _ => (ih.t t st o).bind fun c' st o => match c' with
    | true => (ih.e a st o).bind fun q st o => ret q st o fun h2 h1 c hc => Ev_if (h1 c hc) (h2 c hc)
    | false => (ih.e b st o).bind fun q st o => ret q st o fun h2 h1 c hc => Ev_else (h1 c hc) (h2 c hc)
  | .Attribute v a _ => gd (baseOk v) fun hb => (ih.e v st o).bind fun p st o => opt (fieldsOf st p) fun Cf hf => opt (lk a Cf.2) fun q hl => gd (plainGet (KK w) Cf.1 a) fun k1 => gd (hasDictIn (KK w) Cf.1) fun k2 => opt (findIn (KK w) (.ref Cf.1) a) fun at' k3 => gd (noGet (KK w) at') fun k4 =>
      ret q st o fun h c hc => Ev_attr hb (h c hc) hf hl k1 k2 k3 k4
  | .Subscript v s pos => match hs : notSlice s with
    | true => (ih.e v st o).bind fun p st o => (ih.e s st o).bind fun q st o => (itemC x v s hs p q st o).bind fun r st o => ret r st o fun h3 h2 h1 c hc => Ev_sub (h1 c hc) (h2 c hc) (h3 c hc)
    | false => evF x (.Subscript v s pos) st o
  | .Call (.Name nm xp) es [] pos => callN x ih nm xp es pos st o
  | .Call (.Attribute ob nm apos) es [] pos => gd (baseOk ob) fun hb => gd (es.all notStar) fun hs => gd (Nat.ble es.length 20) fun hn => gd (Nat.beq apos.endLine pos.line) fun hl => (ih.e ob st o).bind fun p st o => match p with
    | .cell i => match es, hs with
      | [a], hs => gd (strEq nm "append") fun hnm => opt (st.cells[i]?) fun mo0 h0 => gd (listM mo0) fun hm => (ih.e a st o).bind fun q st o => opt (st.cells[i]?) fun mo hmo => (snocC mo q st o).bind fun mo' _ o =>
          ret .none { st with cells := st.cells.set i mo' } o fun h3 h2 h1 c hc => by
            rw [strEq_iff.mp hnm]
            exact Ev_append hb (Bool.and_eq_true _ _ ▸ hs).1 hl (h1 c hc) h0 hm (h2 c hc) hmo h3.1
      | _, _ => none
    | p => opt (fieldsOf st p) fun Cf hf => opc (lk nm Cf.2) (fun hlk => gd (plainGet (KK w) Cf.1 nm) fun k1 => opt (findIn (KK w) (.ref Cf.1) nm) fun f? k2 => match f?, k2 with
      | .some (.ref f), k2 => gd (isFn (KK w) (.ref f)) fun k3 => gd (keepIn (KK w) (.ref f)) fun k4 => (argsC x ih es st o).bind fun ps st o => (toC x f (p :: ps) st o).bind fun r st o => ret r st o fun h3 h2 h1 c hc => by
          obtain ⟨cells, rfl, h4⟩ := h3.at hc
          exact Ev_meth hb hs hn hl (h1 c hc) hf hlk k1 k2 k3 k4 (h2 c hc) h4
      | _, _ => none) fun _ _ => none
  | e => evF x e st o
noncomputable def stepL (ih : Evs x) (es : List Expr) (st : AS) (o : List Ora) : Res (EvLG x es st) := match es with
  | [] => ret [] st o fun c _ => EvL_nil
  | e :: es => gd (notStar e) fun hs => (ih.e e st o).bind fun p st o => (ih.l es st o).bind fun ps st o => ret (p :: ps) st o fun h2 h1 c hc => EvL_cons hs (h1 c hc) (h2 c hc)
noncomputable def stepT (ih : Evs x) (e : Expr) (st : AS) (o : List Ora) : Res (TsG x e st) := match e with
  | .Compare l [op] [r] _ => gf (behindInMarks op r) fun hm => (ih.e l st o).bind fun p st o => (ih.e r st o).bind fun q st o => (cmpC x op p q st o).bind fun z st o => (truR z st o).bind fun b _ o => ret b st o fun ht h3 h2 h1 c hc => Ts_cmp hm (h1 c hc) (h2 c hc) (h3 c hc) ht.1
  | .Compare l [op, op2] [r1, r2] _ => gf (lastMarks [op, op2] [r1, r2]) fun hm => (ih.e l st o).bind fun p st o => (ih.e r1 st o).bind fun q st o => (cmpC x op p q st o).bind fun u st o => (truR u st o).bind fun b _ o => match b with
    | false => ret false st o fun ht h3 h2 h1 c hc => Ts_chain_no hm (h1 c hc) (h2 c hc) (h3 c hc) ht.1
    | true => (ih.e r2 st o).bind fun r st o => (cmpC x op2 q r st o).bind fun v st o => (truR v st o).bind fun b _ o => ret b st o fun ht2 h5 h4 ht h3 h2 h1 c hc => Ts_chain_yes hm (h1 c hc) (h2 c hc) (h3 c hc) ht.1 (h4 c hc) (h5 c hc) ht2.1
  | .UnaryOp .Not a _ => (ih.t a st o).bind fun b st o => ret (!b) st o fun h c hc => Ts_not (h c hc)
  | .BoolOp .And [] _ => ret true st o fun c _ => Ts_and_nil
  | .BoolOp .Or [] _ => ret false st o fun c _ => Ts_or_nil
  | .BoolOp .And (a :: r) pos => (ih.t a st o).bind fun b st o => match b with
    | true => (ih.t (.BoolOp .And r pos) st o).bind fun b st o => ret b st o fun h2 h1 c hc => Ts_and_yes (h1 c hc) (h2 c hc)
    | false => ret false st o fun h c hc => Ts_and_no (h c hc)
  | .BoolOp .Or (a :: r) pos => (ih.t a st o).bind fun b st o => match b with
    | true => ret true st o fun h c hc => Ts_or_yes (h c hc)
    | false => (ih.t (.BoolOp .Or r pos) st o).bind fun b st o => ret b st o fun h2 h1 c hc => Ts_or_no (h1 c hc) (h2 c hc)
  | e => gd (plainTest e) fun hp => (ih.e e st o).bind fun p st o => (truR p st o).bind fun b _ o => ret b st o fun ht h c hc => Ts_plain hp (h c hc) ht.1
noncomputable def stepA (ih : Evs x) (es : List Expr) (ps : List PV) (st : AS) (o : List Ora) : Res fun (_ : Unit) st' => AsG x es ps st st' := match es, ps with
  | [], [] => ret () st o fun c _ => As_nil
  | .Name nm _ :: es, p :: ps => (storeC x nm p st o).bind fun _ st o => (ih.a es ps st o).bind fun _ st o => ret () st o fun h2 h1 c hc => As_name (h1 c hc) (h2 c hc)
  | .Attribute ob a _ :: es, p :: ps => (ih.e ob st o).bind fun q st o => match q with
    | .mob C i => opt (st.cells[i]?) fun mo hm => match mo, hm with
      | .dict fs, hm => gd (setOk (KK w) C a) fun hk => gd (Nat.ble fs.length 900) fun hn => (ih.a es ps { st with cells := st.cells.set i (.dict (setL a p fs)) } o).bind fun _ st o => ret () st o fun h2 h1 c hc => As_attr (h1 c hc) hm hk hn (h2 c hc)
      | _, _ => none
    | _ => none
  | _, _ => none
noncomputable def unpackC (ih : Evs x) (ts : List Expr) (k : Nat) (tp : Pos) (v : Expr) (pos : Pos) (hm : notComp v = true) (ht : ∀ c, x.At c → swappedStores [.Tuple ts k tp] v c.env = pure none) (st : AS) (o : List Ora) : Res (Ex1G x (.Assign [.Tuple ts k tp] v pos) st) :=
  gd (ts.all notStar) fun hs => (ih.e v st o).bind fun p st o => match p with
    | .tup l => match hl : Nat.beq ts.length l.length with
      | true => (ih.a ts l st o).bind fun _ st o => ret .next st o fun h2 h1 c hc => Ex1_unpack hm (ht c hc) hs (Nat.eq_of_beq_eq_true hl) (h1 c hc) (h2 c hc)
      | false => none
    | _ => none
noncomputable def stepS (ih : Evs x) (s : Stmt) (st : AS) (o : List Ora) : Res (Ex1G x s st) := match s with
  | .Assign [.Name nm _] v _ => gd (assignOk x.sc nm v) fun ha => (ih.e v st o).bind fun p st o => (storeC x nm p st o).bind fun _ st o => ret .next st o fun h2 h1 c hc => Ex1_assign2 (hc.sc ▸ ha) (h1 c hc) (h2 c hc)
  | .Assign [.Attribute ob a _] v _ => gd (notComp v) fun hv => (ih.e v st o).bind fun p st o => (ih.e ob st o).bind fun q st o => match q with
    | .mob C i => opt (st.cells[i]?) fun mo hm => match mo, hm with
      | .dict fs, hm => gd (setOk (KK w) C a) fun hk => gd (Nat.ble fs.length 900) fun hn => ret .next { st with cells := st.cells.set i (.dict (setL a p fs)) } o fun h2 h1 c hc => Ex1_setattr hv (h1 c hc) (h2 c hc) hm hk hn
      | _, _ => none
    | _ => none
  | .Assign [.Subscript ob ix _] v _ => gd (notComp v) fun hv => (ih.e v st o).bind fun p st o => (ih.e ob st o).bind fun q st o => match q with
    | .cell i => (ih.e ix st o).bind fun z st o => match z with
      | .int (.ofNat k) => opt (st.cells[i]?) fun mo hm => match mo, hm with
        | .list l, hm => gd (Nat.blt k l.length) fun hk => gd (Nat.ble l.length 1000) fun hl => ret .next { st with cells := st.cells.set i (.list (l.set k p)) } o fun h3 h2 h1 c hc => Ex1_setitem hv (h1 c hc) (h2 c hc) (h3 c hc) hm (Nat.le_of_ble_eq_true hk) (Nat.le_of_ble_eq_true hl)
        | _, _ => none
      | _ => none
    | _ => none
  | .Assign [.Tuple ts k tp] (.Tuple vs k2 p2) pos => gf (vs.all (constantsAlone 8)) fun h8 => opc (swR x.sc ts vs)
      (fun hn => unpackC x ih ts k tp (.Tuple vs k2 p2) pos rfl (fun c hc => by rw [swR_eq h8, hc.sc, hn]) st o)
      fun names hn => gd x.fn fun hf => gd (names.all (isLocal x.sc)) fun hx => (ih.e (.Tuple vs k2 p2) st o).bind fun p st o => match p with
        | .tup l => match hl : Nat.beq l.length names.length with
          | true => ret .next { st with loc := (names.reverse.zip l.reverse).foldl (fun l x => setL x.1 x.2 l) st.loc } o fun h1 c hc => Ex1_swap (by rw [swR_eq h8, hc.sc, hn]) (hc.fn hf) (hc.sc ▸ hx) (h1 c hc) (Nat.eq_of_beq_eq_true hl)
          | false => none
        | _ => none
  | .Assign [.Tuple ts k tp] v pos => gd (notComp v) fun hm => gd (notTuple v) fun ht => unpackC x ih ts k tp v pos hm (fun c _ => swapped_none ht) st o
  | .If t a b _ => (ih.t t st o).bind fun c' st o => match c' with
    | true => (ih.b a st o).bind fun f st o => ret f st o fun h2 h1 c hc => Ex1_if (h1 c hc) (h2 c hc)
    | false => (ih.b b st o).bind fun f st o => ret f st o fun h2 h1 c hc => Ex1_else (h1 c hc) (h2 c hc)
  | .Return (some e) _ => (ih.e e st o).bind fun p st o => ret (.ret p) st o fun h c hc => Ex1_ret (h c hc)
  | .Expr e _ => gd (notComp e) fun hm => (ih.e e st o).bind fun p st o => ret .next st o fun h c hc => Ex1_expr hm (h c hc)
  | .While t b els pos => match o with
    | .st f st' :: o' => stF x (.While t b els pos) st (.st f st' :: o')
    | o => match els with
      | [] => (ih.w t b st o).bind fun f st o => ret f st o fun h c hc => Ex1_while (h c hc)
      | _ => none
  | .Try b (h0 :: hs) [] [] _ => (ih.b b st o).bind fun f st o => match f with
    | .ret p => ret (.ret p) st o fun h c hc => Ex1_try (h c hc)
    | _ => none
  | s => stF x s st o
noncomputable def stepW (ih : Evs x) (t : Expr) (b : List Stmt) (st : AS) (o : List Ora) : Res (WhlG x t b st) := (ih.t t st o).bind fun c' st o => match c' with
  | false => ret .next st o fun h c hc => Whl_no (h c hc)
  | true => (ih.b b st o).bind fun f st o => match f with
    | .next => (ih.w t b st o).bind fun f st o => ret f st o fun h3 h2 h1 c hc => Whl_next (h1 c hc) (h2 c hc) (h3 c hc)
    | .ret p => ret (.ret p) st o fun h2 h1 c hc => Whl_ret (h1 c hc) (h2 c hc)
    | _ => none
noncomputable def fzC (s : Stmt) (st0 st : AS) (o : List Ora) : Res fun (_ : Unit) st' => Ex1G x s st0 .next st → Ex1G x s st0 .next st' := match o with
  | .fz st2 :: o' => gd (Nat.ble st0.cells.length st2.cells.length) fun hk => owe () st2 o' [Fz w st st2.cells.length st2] fun Z h c hc => (h c hc).freeze Z.1 hk
  | o => ret () st o fun h => h
noncomputable def stepB (ih : Evs x) (b : List Stmt) (st : AS) (o : List Ora) : Res (ExsG x b st) := match b with
  | [] => ret .next st o fun c _ => Exs_nil
  | s :: r => (ih.s s st o).bind fun f st1 o => match f with
    | .next => (fzC x s st st1 o).bind fun _ st2 o => (ih.b r st2 o).bind fun f st o => ret f st o fun h2 hz h1 c hc => Exs_next (hz h1 c hc) (h2 c hc)
    | .ret p => ret (.ret p) st1 o fun h c hc => Exs_ret (h c hc)
    | .brk => ret .brk st1 o fun h c hc => Exs_brk (h c hc)
    | .cont => ret .cont st1 o fun h c hc => Exs_cont (h c hc)
noncomputable def evs (k : Nat) : Evs x := Nat.rec ⟨fun _ _ _ => none, fun _ _ _ => none, fun _ _ _ => none, fun _ _ _ => none, fun _ _ _ => none, fun _ _ _ _ => none, fun _ _ _ _ => none⟩
  (fun _ ih => ⟨stepE x ih, stepL x ih, stepT x ih, stepS x ih, stepB x ih, stepW x ih, stepA x ih⟩) k
end
end

end
noncomputable section
noncomputable section
/-- values that know of the first k cells alone -/
inductive NB (k : Nat) : PV → Prop
  | int {z} : NB k (.int z)
  | bool {b} : NB k (.bool b)
  | sbool {b} : NB k (.sbool b)
  | none : NB k .none
  | str {s} : NB k (.str s)
  | glob {v} : NB k (.glob v)
  | any : NB k .any
  | anyi : NB k .anyi
  | tup {l} : (∀ p ∈ l, NB k p) → NB k (.tup l)
  | list {l} : (∀ p ∈ l, NB k p) → NB k (.list l)
  | seq {n f} : (∀ j, NB k (f j)) → NB k (.seq n f)
  | inst {C} {fs : List (Str × PV)} : (∀ x ∈ fs, NB k x.2) → NB k (.inst C fs)
  | obj {R} : NB k (.obj R)
  | cell {i} : i < k → NB k (.cell i)
  | mob {C i} : i < k → NB k (.mob C i)
  | var {i} : i < k → NB k (.var i)
  | nsv {i} : i < k → NB k (.nsv i)
/-- values that know of no cell -/
noncomputable abbrev NC : PV → Prop := NB 0
noncomputable def NCL (l : List PV) : Prop := ∀ p ∈ l, NC p
noncomputable def NCD (l : List (Str × PV)) : Prop := ∀ x ∈ l, NC x.2
theorem all_nil {α : Type} {P : α → Prop} : ∀ p ∈ ([] : List α), P p := fun _ h => nomatch h
theorem all_cons {α : Type} {P : α → Prop} {p : α} {l : List α} (h : P p) (t : ∀ q ∈ l, P q) : ∀ q ∈ p :: l, P q := fun q hq => (List.mem_cons.mp hq).elim (fun e => e ▸ h) (t q)
theorem NCL.nil : NCL [] := all_nil
theorem NCL.cons {p : PV} {l : List PV} (h : NC p) (t : NCL l) : NCL (p :: l) := all_cons h t
theorem NCD.nil : NCD [] := all_nil
theorem NCD.cons {x : Str} {p : PV} {l : List (Str × PV)} (h : NC p) (t : NCD l) : NCD ((x, p) :: l) := all_cons (P := fun x : Str × PV => NC x.2) h t
theorem NC.int {z} : NC (.int z) := NB.int
theorem NC.bool {z} : NC (.bool z) := NB.bool
theorem NC.sbool {z} : NC (.sbool z) := NB.sbool
theorem NC.none : NC .none := NB.none
theorem NC.any : NC .any := NB.any
theorem NC.anyi : NC .anyi := NB.anyi
theorem NC.glob {v} : NC (.glob v) := NB.glob
theorem NC.tup {l} (h : NCL l) : NC (.tup l) := NB.tup h
theorem NC.list {l} (h : NCL l) : NC (.list l) := NB.list h
theorem NC.inst {C fs} (h : NCD fs) : NC (.inst C fs) := NB.inst h
theorem NC.seq {n f} (h : ∀ j, NC (f j)) : NC (.seq n f) := NB.seq h
theorem NB.up {k k' : Nat} (hk : k ≤ k') {p : PV} (h : NB k p) : NB k' p := by
  induction h with
  | int => exact .int
  | bool => exact .bool
  | sbool => exact .sbool
  | none => exact .none
  | str => exact .str
  | glob => exact .glob
  | any => exact .any
  | anyi => exact .anyi
  | tup _ ih => exact .tup ih
  | list _ ih => exact .list ih
  | seq _ ih => exact .seq ih
  | inst _ ih => exact .inst ih
  | obj => exact .obj
  | cell h => exact .cell (Nat.lt_of_lt_of_le h hk)
  | mob h => exact .mob (Nat.lt_of_lt_of_le h hk)
  | var h => exact .var (Nat.lt_of_lt_of_le h hk)
  | nsv h => exact .nsv (Nat.lt_of_lt_of_le h hk)
section
variable {w : World} {F F' : Addr → Obj → Prop} {ms ms' : List Addr} {k : Nat}
theorem IsL.on {l vs} (h : IsL w F ms l vs) : (∀ p ∈ l, ∀ v, Is w F ms p v → Is w F ms' p v) → IsL w F ms' l vs :=
  h.ind (P := fun l vs => (∀ p ∈ l, ∀ v, Is w F ms p v → Is w F ms' p v) → IsL w F ms' l vs) (fun _ => .nil) fun i _ ih g => .cons (g _ (.head _) _ i) (ih fun p hp => g p (.tail _ hp))
theorem IsD.on {l vs} (h : IsD w F ms l vs) : (∀ x ∈ l, ∀ v, Is w F ms x.2 v → Is w F ms' x.2 v) → IsD w F ms' l vs :=
  h.ind (P := fun l vs => (∀ x ∈ l, ∀ v, Is w F ms x.2 v → Is w F ms' x.2 v) → IsD w F ms' l vs) (fun _ => .nil) fun i _ ih g => .cons (g _ (.head _) _ i) (ih fun p hp => g p (.tail _ hp))
theorem NB.is (hm : ∀ i, i < k → ms[i]? = ms'[i]?) {p : PV} (h : NB k p) : ∀ v, Is w F ms p v → Is w F ms' p v := by
  induction h with
  | int => intro v i; cases i; exact .int
  | bool => intro v i; cases i; exact .bool
  | sbool => intro v i; cases i; exact .sbool
  | none => intro v i; cases i; exact .none
  | str => intro v i; cases i; exact .str
  | glob => intro v i; cases i with | glob h => exact .glob h
  | any => intro v i; cases i with | any h => exact .any h
  | anyi => intro v i; cases i; exact .anyi
  | tup _ ih => intro v i; obtain ⟨a, n, vs, rfl, f, l⟩ := i.tup_inv; exact .tup f (l.on ih)
  | list _ ih => intro v i; obtain ⟨a, n, vs, rfl, f, l⟩ := i.list_inv; exact .list f (l.on ih)
  | seq _ ih => intro v i; obtain ⟨a, n, vs, rfl, f, e, l⟩ := i.seq_inv; exact .seq f e fun j u q => ih j u (l j u q)
  | inst _ ih => intro v i; obtain ⟨a, d, es, rfl, f, f2, l⟩ := i.inst_inv; exact .inst f f2 (l.on ih)
  | obj => intro v i; cases i with | obj h => exact .obj h
  | cell h => intro v i; obtain ⟨a, rfl, e⟩ := i.cell_inv; exact .cell (by rw [← hm _ h]; exact e)
  | mob h => intro v i; obtain ⟨a, d, rfl, f, e⟩ := i.mob_inv; exact .mob f (by rw [← hm _ h]; exact e)
  | var => intro v i; exact i.var_no.elim
  | nsv => intro v i; exact i.nsv_no.elim
theorem NC.is {p : PV} {v : Value} (h : NC p) (i : Is w F ms p v) : Is w F ms' p v := NB.is (fun _ h => absurd h (Nat.not_lt_zero _)) h v i
theorem NCL.is {l vs} (n : NCL l) (h : IsL w F ms l vs) : IsL w F ms' l vs := h.on fun p hp _ i => NC.is (n p hp) i
theorem NCD.is {l vs} (n : NCD l) (h : IsD w F ms l vs) : IsD w F ms' l vs := h.on fun p hp _ i => NC.is (n p hp) i
end
/-! a function's text -/
noncomputable def fdAt (K : Frag) (f : Addr) : FuncData := match K.lookup f with
  | some ⟨_, _, .func fd, _⟩ => fd
  | _ => default
noncomputable def bodyOf (K : Frag) (f : Addr) : List Stmt := match (fdAt K f).body with
  | .stmts b => b
  | _ => []
noncomputable def scopeOf (K : Frag) (f : Addr) : Scope := (fdAt K f).scope
noncomputable def fnOk (K : Frag) (f : Addr) : Bool := match K.lookup f with
  | some ⟨_, _, .func ⟨_, qual, _, .stmts _, scope, gl, [], _, _, _, _, _, code, _, bi⟩, _⟩ => Nat.beq gl mainGlobals && Nat.beq bi builtinsNs && codeIn K code qual && !scope.isCoroutine && !scope.isGenerator && decide (scope.kind = .function)
  | _ => false
theorem fn_of {K : Frag} {f : Addr} (h : fnOk K f = true) : ∃ name qual params body scope dV kV doc pm an cdv ct oc od osl, K.lookup f = some ⟨oc, od, .func (fnOf name qual params body scope dV kV doc pm an cdv ct), osl⟩ ∧ codeIn K cdv qual = true ∧
    scope.isCoroutine = false ∧ scope.isGenerator = false ∧ scope.kind = .function ∧ fdAt K f = fnOf name qual params body scope dV kV doc pm an cdv ct := by
  unfold fnOk at h
  split at h
  · rename_i e
    simp only [Bool.and_eq_true, Bool.not_eq_true', decide_eq_true_eq] at h
    obtain ⟨⟨⟨⟨⟨h1, h2⟩, h3⟩, h4⟩, h5⟩, h6⟩ := h
    have h1 := Nat.eq_of_beq_eq_true h1
    have h2 := Nat.eq_of_beq_eq_true h2
    subst h1 h2
    refine ⟨_, _, _, _, _, _, _, _, _, _, _, _, _, _, _, e, h3, h4, h5, h6, ?_⟩
    unfold fdAt
    rw [e]
  · cases h
/-- a plain def: its parameters -/
structure FnAt (K : Frag) (f : Addr) (names : List Str) : Prop where
  ok : fnOk K f = true
  cell : ((scopeOf K f).names.all fun x => decide (x.2 ≠ .cell)) = true
  loc : (names.all fun x => decide ((scopeOf K f).names.lookup x = some .local)) = true
  nodup : names.Nodup
  bind : ∀ vs : List Value, vs.length = names.length → bindArgs (fdAt K f) ⟨vs, []⟩ = pure (names.zip vs)
/-- a def with defaults ds -/
structure FnAtD (K : Frag) (f : Addr) (names : List Str) (ds : List Value) : Prop where
  ok : fnOk K f = true
  cell : ((scopeOf K f).names.all fun x => decide (x.2 ≠ .cell)) = true
  loc : (names.all fun x => decide ((scopeOf K f).names.lookup x = some .local)) = true
  nodup : names.Nodup
  hand : ds.all handedIn = true
  bind : ∀ vs : List Value, vs.length + ds.length = names.length → ∀ s : Shared, K.In s.heap → BindsTo s (fdAt K f) ⟨vs, []⟩ (names.zip (vs ++ ds))
theorem FnAt.toD {K : Frag} {f : Addr} {names : List Str} (h : FnAt K f names) : FnAtD K f names [] := ⟨h.ok, h.cell, h.loc, h.nodup, rfl, fun vs e s _ => by rw [List.append_nil]; exact BindsTo.of_eq (h.bind vs e)⟩
section
variable {w : World}
theorem hand_is {F : Addr → Obj → Prop} {ms : List Addr} {ds : List Value} (h : ds.all handedIn = true) : IsL w F ms (ds.map pvOf) ds := by
  induction ds with
  | nil => exact .nil
  | cons d ds ih =>
    rw [List.all_cons, Bool.and_eq_true] at h
    exact .cons (pvOf_is h.1) (ih h.2)
theorem lk_zip {F : Addr → Obj → Prop} {ms : List Addr} {x : Str} {p : PV} {names : List Str} : ∀ {args : List PV} {vs : List Value}, IsL w F ms args vs → lk x (names.zip args) = some p → ∃ v, (x, v) ∈ names.zip vs ∧ Is w F ms p v := by
  induction names with
  | nil => intro args vs _ e; cases e
  | cons y names ih =>
    intro args vs h e
    cases args with
    | nil => cases e
    | cons q args =>
      obtain ⟨v, vs, rfl, i, l⟩ := h.cons_inv
      have e : cond (strEq x y) (some q) (lk x (names.zip args)) = some p := e
      cases hs : strEq x y with
      | true =>
        rw [hs] at e
        cases e
        rw [strEq_iff.mp hs]
        exact ⟨v, .head _, i⟩
      | false =>
        rw [hs] at e
        obtain ⟨u, hu, iu⟩ := ih l e
        exact ⟨u, .tail _ hu, iu⟩
theorem lookup_mem {x : Str} {v : Value} {l : List (Str × Value)} (hn : (l.map (·.1)).Nodup) (hm : (x, v) ∈ l) : l.lookup x = some v := by
  induction l with
  | nil => cases hm
  | cons y l ih =>
    rw [List.map_cons, List.nodup_cons] at hn
    rcases List.mem_cons.mp hm with rfl | hm
    · exact List.lookup_cons_self
    · rw [List.lookup_cons, beq_eq_false_iff_ne.mpr fun e => hn.1 (by rw [← e]; exact List.mem_map.mpr ⟨(x, v), hm, rfl⟩)]
      exact ih hn.2 hm
theorem lookup_rev {l : List (Str × Value)} (hn : (l.map (·.1)).Nodup) {x : Str} {v : Value} (h : (x, v) ∈ l) : l.reverse.lookup x = some v :=
  lookup_mem (by rw [List.map_reverse]; exact List.pairwise_reverse.mpr (List.Pairwise.imp Ne.symm hn)) (List.mem_reverse.mpr h)
theorem prefix_of {α : Type} {l : List α} : ∀ {l' : List α}, (∀ (i : Nat) a, l[i]? = some a → l'[i]? = some a) → ∃ r, l' = l ++ r := by
  induction l with
  | nil => exact fun {l'} _ => ⟨l', rfl⟩
  | cons a l ih =>
    intro l' h
    cases l' with
    | nil => cases h 0 a rfl
    | cons b l' =>
      cases h 0 a rfl
      obtain ⟨r, e⟩ := ih (l' := l') fun i a e => h (i + 1) a e
      exact ⟨r, by rw [e]; rfl⟩
noncomputable def AF.val : AF → Option PV
  | .ret p => some p
  | .next => some .none
  | _ => none
theorem none_of {a : Addr} {h0 : Heap} {l : List Addr} (e1 : (hideAll h0 l).get? a = none) (e2 : a ∉ l) : h0.get? a = none := by
  cases e : h0.get? a with
  | none => rfl
  | some o =>
    have : (hideAll h0 l).get? a = some o := hideAll_get _ e e2
    rw [e1] at this; cases this
/-- what a frame leaves behind -/
theorem RepX.left {c : Act w} {W : Wd} {st : AS} {h h0 : Heap} {m cs cs0} {rest : List Addr} (R : RepX c W st h m cs) (e : c.H = hideAll h0 (cs0.map (·.1))) (er : W.ms = cs0.map (·.1) ++ rest) : Left w c.F h0 h cs0 cs W.fr rest st.cells := by
  have nd := R.nodup
  rw [er] at nd
  have old : ∀ {a}, c.H.get? a = none → a ∉ cs0.map (·.1) → h0.get? a = none := fun h => none_of (by rw [← e]; exact h)
  refine ⟨fun b o hb ho => R.fr.keep b o (by rw [e]; exact hideAll_get _ ho hb), fun p hp => ?_, by rw [R.ms, er], fun a ha => ⟨?_, fun p hp q => ?_⟩, ⟨fun p hp => (R.news p (List.mem_append_left _ hp)).1, by rw [R.ms]; exact R.nodup, R.len, by rw [R.ms]; exact R.cells⟩⟩
  · have z := R.news p (List.mem_append_right _ hp)
    exact ⟨z.1, old z.2.2 fun q => R.sep p hp (by rw [er]; exact List.mem_append_left _ q)⟩
  · have hm : a ∈ cs.map (·.1) := by rw [R.ms, er]; exact List.mem_append_right _ ha
    exact old (R.off hm).1 fun q => (List.nodup_append.mp nd).2.2 _ q _ ha rfl
  · exact R.sep p hp (by rw [er, q]; exact List.mem_append_right _ ha)
noncomputable abbrev Cx.of (g : Gl w) (n : Nat) (f : Addr) : Cx w := ⟨g, n, scopeOf (KK w) f, true, false⟩
theorem codeTo_gen {fl : AF} {g : Gl w} {n f k : Nat} {args args' : List PV} {names : List Str} {ds : List Value} {cells cells' : List MO} {p r : PV} {st1 : AS} (hf : FnAtD (KK w) f names ds) (ha : args' = args ++ ds.map pvOf) (hlen : names.length = args'.length)
    (h : ExsG (.of g n f) (bodyOf (KK w) f) ⟨names.zip args', cells⟩ fl st1) (hfl : fl.val = some p) (hk : cells.length ≤ k) (hz : Drop w st1.cells k p r) (Z : Fz w st1 k ⟨[], cells'⟩) : CodeTo g (n + 1) f args cells r cells' := by
  intro A h0 tk gs dr os F cs vs S RR kQ
  obtain ⟨name, qual, params, body, scope, dV, kV, doc, pm, an, cdv, ct, oc, od, osl, ho, hcd, hco, hgen, hkd, hfd⟩ := fn_of hf.ok
  obtain ⟨hF, C, ⟨⟨base, outer, B⟩, X, T, hdp, hu, hh⟩, ia0⟩ := S
  have ia : IsL w F (cs.map (·.1)) args' (vs ++ ds) := ha ▸ ia0.append (hand_is hf.hand)
  have hl0 : recursionLimit = 1000 := rfl
  have hsc : scopeOf (KK w) f = scope := by unfold scopeOf; rw [hfd]
  have hbd : bodyOf (KK w) f = body := by unfold bodyOf; rw [hfd]
  have up : ∀ b o, (hideAll h0 (cs.map (·.1))).get? b = some o → h0.get? b = some o := fun b o e => of_hideAll _ e
  have hlv : names.length = (vs ++ ds).length := hlen.trans ia.length
  have hzk : (names.zip (vs ++ ds)).map (·.1) = names := List.map_fst_zip (Nat.le_of_eq hlv)
  have hbt : BindsTo ⟨h0, gs, dr, tk, os⟩ (fnOf name qual params body scope dV kV doc pm an cdv ct) ⟨vs, []⟩ (names.zip (vs ++ ds)) := hfd ▸ hf.bind vs (by rw [hlv, List.length_append]) _ (X.keeps up)
  have hcell := hf.cell
  have hl := hf.loc
  rw [hsc] at hcell hl
  refine codeAny_call_def (fd := fnOf name qual params body scope dV kV doc pm an cdv ct) (body := body) (binds := names.zip (vs ++ ds)) (by omega) (up _ _ (X _ _ ho)) rfl (T.nolimit.keeps up) (codeRec_of (X.keeps up) hcd) rfl hbt
    (fun x hx => of_decide_eq_true (List.all_eq_true.mp hcell x hx)) (fun y hy => ?_) (fun h₁ hns hk₁ => ?_) hco hgen hkd
  · have := List.mem_map_of_mem (f := (·.1)) hy
    rw [hzk] at this
    exact of_decide_eq_true (List.all_eq_true.mp hl _ this)
  · let c : Act w := { g with env := envOf qual scope h0.objs.size f cdv, A := A.deeper (envOf qual scope h0.objs.size f cdv), H := hideAll h0 (cs.map (·.1)), L := h0.objs.size, n := n, gs, dr, os, F, hF, X, T,
                              sur := fun h m cs' F' N' => by
                                obtain ⟨FG, BG, st', _⟩ := groundX (R := fun _ _ => True) (s := { heap := h }) (A := A.deeper (envOf qual scope h0.objs.size f cdv)) (env := envOf qual scope h0.objs.size f cdv) B F' N' (by rw [Around.frames_deeper B.stack]) rfl hkd
                                exact ⟨⟨base, envOf qual scope h0.objs.size f cdv :: outer, BG⟩, X.keeps st', T.keeps st', by show A.depth + 1 + n ≤ 400; omega, by show A.units + 3 + 10 * n ≤ 1000; omega, hh⟩,
                              units := by show A.units + 3 < 9000; omega, hand := hh, kind := hkd, glob := rfl, blt := rfl }
    have mono0 : ∀ a o, F a o → Wd.fact ⟨[], cs.map (·.1)⟩ c.F a o := fun a o q => .inl q
    have R0 : RepX c ⟨[], cs.map (·.1)⟩ ⟨names.zip args', cells⟩ h₁ (fun y => (names.zip (vs ++ ds)).reverse.lookup y) cs := by
      refine ⟨⟨hns, fun b o e => hk₁ b o (up b o e), Nat.le_of_eq (hideAll_size _ _)⟩, fun p hp => ?_, rfl, C.nodup, fun p hp => (nomatch hp), fun x p e => ?_, C.len, fun i mo e => ?_⟩
      · rw [List.append_nil] at hp
        exact ⟨hk₁ _ _ (C.at_ p hp), Nat.ne_of_lt (Heap.lt_size (C.at_ p hp)), hideAll_none _ (List.mem_map_of_mem hp)⟩
      · obtain ⟨v, hv, iv⟩ := lk_zip ia e
        exact .frame (iv.mono mono0 (fun _ _ q => q)) (lookup_rev (by rw [hzk]; exact hf.nodup) hv)
      · obtain ⟨a, o, e, im⟩ := C.is i mo e
        exact ⟨a, o, e, im.mono mono0 fun _ _ q => q⟩
    have key := h c ⟨rfl, rfl, hsc.symm, fun _ => rfl, fun e => (nomatch e)⟩ ⟨[], cs.map (·.1)⟩ h₁ (tk + (names.zip (vs ++ ds)).length) ⟨_, _, R0⟩ (fun fl s' => RR (.ok (.ret (match fl with | .ret v => v | _ => .none))) s') fun W' fl' h' tk' le R' ifl => by
      have main : ∀ v, Is w (W'.fact c.F) W'.ms p v → RR (.ok (.ret v)) (c.sh h' tk') := fun v iv => by
        obtain ⟨m', csf, R'⟩ := R'
        obtain ⟨rest, er⟩ := prefix_of (l := cs.map (·.1)) (l' := W'.ms.take k) fun i a q => by
          have hi := (List.getElem?_eq_some_iff.mp q).1
          rw [List.length_map, ← C.len] at hi
          rw [List.getElem?_take_of_lt (Nat.lt_of_lt_of_le hi hk)]
          exact le.ms i a q
        have D := (R'.freeze Z).left (h0 := h0) (cs0 := cs) rfl er
        refine kQ v h' tk' _ _ rest D ?_
        exact hz _ _ csf (R'.cut k) v (by rw [R'.ms]; exact iv)
      cases ifl with
      | next => cases hfl; exact main _ .none
      | ret iv => cases hfl; exact main _ iv
      | brk => cases hfl
      | cont => cases hfl
    rw [hbd] at key
    exact wpAny_mono key (fun _ _ x => x) (fun _ _ x => x.elim)
variable {g : Gl w} {n f k : Nat} {args : List PV} {names : List Str} {cells cells' cs1 : List MO} {p r : PV} {fl : AF} {st1 : AS} {o : List Ora} {obls : List Prop}
theorem exs_code (hf : FnAt (KK w) f names) (hlen : names.length = args.length) (h : ExsG (.of g n f) (bodyOf (KK w) f) ⟨names.zip args, cells⟩ fl st1) (hfl : fl.val = some p) (hk : cells.length ≤ k) (hk2 : k ≤ st1.cells.length) (hz : fz 9 st1.cells k p = r) (hc : (st1.cells.take k).map (fzM 9 st1.cells k) = cells') : CodeTo g (n + 1) f args cells r cells' :=
  codeTo_gen hf.toD (List.append_nil _).symm hlen h hfl hk (hz ▸ Drop.fz _) (hc ▸ { Fz.of (st1 := ⟨[], st1.cells⟩) (n := 9) (Nat.ble_eq_true_of_le hk2) rfl with loc := fun x r e => (nomatch e) })
theorem exs_all (hf : FnAt (KK w) f names) (hlen : names.length = args.length) (h : ExsG (.of g n f) (bodyOf (KK w) f) ⟨names.zip args, cells⟩ fl st1) (hfl : fl.val = some p) (hk : cells.length ≤ st1.cells.length) : CodeTo g (n + 1) f args cells p st1.cells :=
  codeTo_gen hf.toD (List.append_nil _).symm hlen h hfl hk Drop.all ⟨Nat.le_refl _, rfl, fun x r e => (nomatch e), fun i r e => ⟨r, e, DropM.all⟩⟩
/-- a run's answer: how it ends, the state, what it owes -/
noncomputable def Res.data {α : Type} {P : α → AS → Prop} (r : Res P) : Option (α × AS × List Prop) := Option.rec none (fun u => some (u.val, u.st, u.obl)) r
theorem Res.sound {α : Type} {P : α → AS → Prop} {r : Res P} {a : α} {st : AS} {ps : List Prop} (h : r.data = some (a, st, ps)) (hp : AllP ps) : P a st := by
  cases r with
  | none => cases h
  | some u => cases h; exact u.pf hp
noncomputable def runB (x : Cx w) (b : List Stmt) (st : AS) (o : List Ora) : Option (AF × AS × List Prop) := ((evs x 60).b b st o).data
noncomputable def runT (x : Cx w) (e : Expr) (st : AS) (o : List Ora) : Option (Bool × AS × List Prop) := ((evs x 60).t e st o).data
noncomputable def runE (x : Cx w) (e : Expr) (st : AS) (o : List Ora) : Option (PV × AS × List Prop) := ((evs x 60).e e st o).data
noncomputable def runP (g : Gl w) (n : Nat) (f : Addr) (names : List Str) (args : List PV) (cells : List MO) (o : List Ora) : Option (AF × List MO × List Prop) :=
  Option.rec none (fun u => some (u.val, u.st.cells, u.obl)) ((evs (.of g n f) 60).b (bodyOf (KK w) f) ⟨names.zip args, cells⟩ o)
theorem runP_some (run : runP g n f names args cells o = some (fl, cs1, obls)) (hob : AllP obls) : ∃ loc, ExsG (.of g n f) (bodyOf (KK w) f) ⟨names.zip args, cells⟩ fl ⟨loc, cs1⟩ := by
  unfold runP at run
  cases e : (evs (.of g n f) 60).b (bodyOf (KK w) f) ⟨names.zip args, cells⟩ o with
  | none => rw [e] at run; cases run
  | some u =>
    rw [e] at run
    cases run
    exact ⟨u.st.loc, u.pf hob⟩
theorem run_code (hf : FnAt (KK w) f names) (run : runP g n f names args cells o = some (fl, cs1, obls)) (hlen : names.length = args.length) (hob : AllP obls)
    (hfl : fl.val = some p) (hk : cells.length ≤ k) (hk2 : k ≤ cs1.length) (hz : fz 9 cs1 k p = r) (hc : (cs1.take k).map (fzM 9 cs1 k) = cells') : CodeTo g (n + 1) f args cells r cells' := by
  obtain ⟨loc, h⟩ := runP_some run hob
  exact exs_code hf hlen h hfl hk hk2 hz hc
theorem run_all (hf : FnAt (KK w) f names) (run : runP g n f names args cells o = some (fl, cs1, obls)) (hlen : names.length = args.length) (hob : AllP obls)
    (hfl : fl.val = some p) (hk : cells.length ≤ cs1.length) : CodeTo g (n + 1) f args cells p cs1 := by
  obtain ⟨loc, h⟩ := runP_some run hob
  exact exs_all hf hlen h hfl hk
/-- with the defaults written out -/
theorem run_allD {args' : List PV} {ds : List Value} (hf : FnAtD (KK w) f names ds) (run : runP g n f names args' cells o = some (fl, cs1, obls)) (ha : args' = args ++ ds.map pvOf) (hlen : names.length = args'.length) (hob : AllP obls)
    (hfl : fl.val = some p) (hk : cells.length ≤ cs1.length) : CodeTo g (n + 1) f args cells p cs1 := by
  obtain ⟨loc, h⟩ := runP_some run hob
  exact codeTo_gen hf ha hlen h hfl hk Drop.all ⟨Nat.le_refl _, rfl, fun x r e => (nomatch e), fun i r e => ⟨r, e, DropM.all⟩⟩
end
end

end
noncomputable section
noncomputable section
inductive NBM (k : Nat) : MO → Prop
  | list {l} : (∀ p ∈ l, NB k p) → NBM k (.list l)
  | seq {n f} : (∀ j, NB k (f j)) → NBM k (.seq n f)
  | dict {fs : List (Str × PV)} : (∀ x ∈ fs, NB k x.2) → NBM k (.dict fs)
  | raw {o} : NBM k (.raw o)
  | var {p} : NB k p → NBM k (.var p)
  | novar : NBM k .novar
  | ns {x p} : NB k p → NBM k (.ns x p)
section
variable {w : World} {F : Addr → Obj → Prop} {ms ms' : List Addr} {k : Nat}
theorem NBM.is (hm : ∀ i, i < k → ms[i]? = ms'[i]?) {p : MO} {o : Obj} (n : NBM k p) (i : IsM w F ms p o) : IsM w F ms' p o := by
  cases i with
  | list l => cases n with | list n => exact .list (l.on fun p hp v i => (n p hp).is hm v i)
  | seq e l => cases n with | seq n => exact .seq e fun j v q => (n j).is hm v (l j v q)
  | dict l => cases n with | dict n => exact .dict (l.on fun p hp v i => (n p hp).is hm v i)
  | raw => exact .raw
  | var e i => cases n with | var n => exact .var e (n.is hm _ i)
  | novar e => exact .novar e
  | ns a b i => cases n with | ns n => exact .ns a b (n.is hm _ i)
end
theorem Sur.mono {w : World} {p : Program} {loose : List Str} {mean : ExcName → Option Value} {mg mb : Str → Option Value} {A : Around} {h h' : Heap} {n : Nat} (S : Sur w p loose mean mg mb A h n) (k : ∀ b o, h.get? b = some o → h'.get? b = some o) : Sur w p loose mean mg mb A h' n :=
  have ⟨⟨base, outer, B⟩, X, T, hdp, hu, hh⟩ := S
  ⟨⟨base, outer, B.stack, fun b o e => k b o (B.stays b o e), B.frames.of_keeps fun b o e _ => ⟨o, k b o e, rfl⟩⟩, X.keeps k, T.keeps k, hdp, hu, hh⟩
theorem Sur.le {w : World} {p : Program} {loose : List Str} {mean : ExcName → Option Value} {mg mb : Str → Option Value} {A : Around} {h : Heap} {n k : Nat} (S : Sur w p loose mean mg mb A h n) (hk : k ≤ n) : Sur w p loose mean mg mb A h k :=
  have ⟨B, X, T, hdp, hu, hh⟩ := S
  ⟨B, X, T, Nat.le_trans (Nat.add_le_add_left hk _) hdp, Nat.le_trans (Nat.add_le_add_left (Nat.mul_le_mul_left 10 hk) _) hu, hh⟩
section
variable {w : World} {g : Gl w} {n k f : Nat} {args : List PV} {cells cells' : List MO} {p r : PV} {A : Around} {h h' : Heap} {F : Addr → Obj → Prop} {cs : List (Addr × Obj)} {vs : List Value}
theorem Start.le (S : Start g n A h F cells cs args vs) (hk : k ≤ n) : Start g k A h F cells cs args vs := { S with sur := S.sur.le hk }
theorem CallTo.le (h : CallTo g k f args cells r cells') (hk : k ≤ n) : CallTo g n f args cells r cells' := fun A h0 tk gs dr os F cs vs S Q kQ => h A h0 tk gs dr os F cs vs (S.le hk) Q kQ
theorem hide_sub {l l' : List Addr} (k : ∀ a ∈ l', a ∈ l) : ∀ b o, (hideAll h l).get? b = some o → (hideAll h l').get? b = some o := fun b o e => hideAll_get _ (of_hideAll _ e) fun hm => by
  rw [hideAll_none _ (k b hm)] at e; cases e
theorem nil_get {α : Type} {i : Nat} {a : α} (e : ([] : List α)[i]? = some a) : False := by rw [List.getElem?_nil] at e; cases e
theorem CallTo.frame (h : CallTo g n f args [] r []) (hn : NCL args) : CallTo g n f args cells r cells := fun A h0 tk gs dr os F cs vs S Q kQ => by
  have up := hide_sub (h := h0) (l := cs.map (·.1)) (l' := []) fun _ h => nomatch h
  refine h A h0 tk gs dr os F [] vs ⟨fun a o q => up _ _ (S.hF a o q), ⟨fun p hp => (nomatch hp), .nil, rfl, fun i mo e => (nil_get e).elim⟩, S.sur.mono up, hn.is S.args⟩ Q fun v h' tk' tl cs' ex D iv => ?_
  obtain rfl : cs' = [] := List.eq_nil_of_length_eq_zero D.cells.len.symm
  exact kQ v h' tk' tl cs [] ⟨fun b o _ e => D.keep b o (fun h => nomatch h) e, D.new, (List.append_nil _).symm, fun a ha => (nomatch ha),
    ⟨fun p hp => D.keep _ _ (fun h => nomatch h) (S.cells.at_ p hp), S.cells.nodup, S.cells.len, (S.cells.mono fun a o q => .inl q).is⟩⟩ (iv.mono (fun _ _ q => q) (fun i a q => (nil_get q).elim))
theorem set_mem {l : List (Addr × Obj)} {i : Nat} {x p : Addr × Obj} (h : p ∈ l.set i x) : p = x ∨ ∃ j, j ≠ i ∧ l[j]? = some p := by
  obtain ⟨j, hj, e⟩ := List.getElem_of_mem h
  by_cases q : i = j
  · subst q
    rw [List.getElem_set_self] at e
    exact .inl e.symm
  · rw [List.getElem_set_ne q] at e
    exact .inr ⟨j, fun e => q e.symm, by rw [← e]; exact List.getElem?_eq_getElem _⟩
theorem nodup_at {l : List (Addr × Obj)} (n : (l.map (·.1)).Nodup) {i j : Nat} {x y : Addr × Obj} (h1 : l[i]? = some x) (h2 : l[j]? = some y) (e : x.1 = y.1) : i = j := by
  have lt : ∀ {i j : Nat} {x y : Addr × Obj}, l[i]? = some x → l[j]? = some y → x.1 = y.1 → ¬ i < j := fun {i j x y} h1 h2 e hlt => by
    obtain ⟨a, a'⟩ := List.getElem?_eq_some_iff.mp h1
    obtain ⟨b, b'⟩ := List.getElem?_eq_some_iff.mp h2
    refine List.pairwise_iff_getElem.mp n i j (by rw [List.length_map]; exact a) (by rw [List.length_map]; exact b) hlt ?_
    rw [List.getElem_map, List.getElem_map, a', b']; exact e
  exact Nat.le_antisymm (Nat.not_lt.mp (lt h2 h1 e.symm)) (Nat.not_lt.mp (lt h1 h2 e))
/-- a call that changes one object alone -/
theorem CallTo.subM {i : Nat} {mo mo' : MO} {p q : PV} {as : List PV} (h : CallTo g n f (p :: as) [mo] r [mo']) (hpq : (p = .cell 0 ∧ q = .cell i) ∨ ∃ C, p = .mob C 0 ∧ q = .mob C i) (hi : cells[i]? = some mo) (n1 : NBM 0 mo) (n2 : NBM 0 mo') (n3 : NC r) (n4 : NCL as) (hc : cells.set i mo' = cells') : CallTo g n f (q :: as) cells r cells' := fun A h0 tk gs dr os F cs vs S Q kQ => by
  subst hc
  have z0 : ∀ {ms ms' : List Addr} (i : Nat), i < 0 → ms[i]? = ms'[i]? := fun _ h => absurd h (Nat.not_lt_zero _)
  obtain ⟨d, o, e1, im⟩ := S.cells.is i _ hi
  have hd : (cs.map (·.1))[i]? = some d := by rw [List.getElem?_map, e1]; rfl
  have up := hide_sub (h := h0) (l := cs.map (·.1)) (l' := [d]) fun a ha => by rw [List.mem_singleton.mp ha]; exact List.mem_of_getElem? hd
  obtain ⟨v, vs, rfl, ia, il⟩ := S.args.cons_inv
  have ia' : Is w F [d] p v := by
    rcases hpq with ⟨rfl, rfl⟩ | ⟨C, rfl, rfl⟩
    · obtain ⟨a, rfl, e2⟩ := ia.cell_inv
      exact .cell (hd.symm.trans e2)
    · obtain ⟨a, d', rfl, f1, e2⟩ := ia.mob_inv
      exact .mob f1 (hd.symm.trans e2)
  refine h A h0 tk gs dr os F [(d, o)] _ ⟨fun a o q => up _ _ (S.hF a o q), ⟨fun p hp => ?_, List.nodup_cons.mpr ⟨List.not_mem_nil, .nil⟩, rfl, fun j mo e => ?_⟩, S.sur.mono up, .cons ia' (n4.is il)⟩ Q fun v h' tk' tl cs' ex D iv => ?_
  · rw [List.mem_singleton.mp hp]; exact S.cells.at_ _ (List.mem_of_getElem? e1)
  · cases j with
    | zero => cases e; exact ⟨d, _, rfl, n1.is z0 im⟩
    | succ j => cases e
  · obtain ⟨d1, o', e3, im'⟩ := D.cells.is 0 _ rfl
    have em : cs' = [(d1, o')] := by
      cases cs' with
      | nil => cases e3
      | cons x r =>
        cases e3
        cases r with
        | nil => rfl
        | cons y r => cases D.cells.len
    subst em
    have ems := D.ms
    obtain rfl : d1 = d := by injection ems
    have km : (cs.set i (d1, o')).map (·.1) = cs.map (·.1) := map_set_fst e1
    have hi' := (List.getElem?_eq_some_iff.mp e1).1
    refine kQ v h' tk' tl (cs.set i (d1, o')) [] ⟨fun b o hb e => D.keep b o (fun hm => hb (by rw [List.mem_singleton.mp hm]; exact List.mem_of_getElem? hd)) e, D.new, by rw [km, List.append_nil], fun a ha => (nomatch ha),
      ⟨fun p hp => ?_, by rw [km]; exact S.cells.nodup, by rw [List.length_set, List.length_set]; exact S.cells.len, fun j mo e => ?_⟩⟩ (NC.is n3 iv)
    · rcases set_mem hp with rfl | ⟨j, hj, ej⟩
      · exact D.cells.at_ _ (.head _)
      · exact D.keep _ _ (fun hm => hj (nodup_at S.cells.nodup ej e1 (List.mem_singleton.mp hm))) (S.cells.at_ p (List.mem_of_getElem? ej))
    · by_cases hj : i = j
      · subst hj
        rw [List.getElem?_set_self (by rw [S.cells.len]; exact hi')] at e
        cases e
        exact ⟨d1, _, List.getElem?_set_self hi', n2.is z0 im'⟩
      · rw [List.getElem?_set_ne hj] at e
        obtain ⟨a, o, ea, ja⟩ := S.cells.is j mo e
        exact ⟨a, o, by rw [List.getElem?_set_ne hj]; exact ea, ja.mono (fun a o q => .inl q) fun i a q => by rw [km]; exact q⟩
/-- a method that changes its object alone -/
theorem CallTo.sub1 {C i : Nat} {fs fs' : List (Str × PV)} {as : List PV} (h : CallTo g n f (.mob C 0 :: as) [.dict fs] r [.dict fs']) (hi : cells[i]? = some (.dict fs)) (n1 : NCD fs) (n2 : NCD fs') (n3 : NC r) (n4 : NCL as) (hc : cells.set i (.dict fs') = cells') : CallTo g n f (.mob C i :: as) cells r cells' :=
  h.subM (.inr ⟨C, rfl, rfl⟩) hi (.dict n1) (.dict n2) n3 n4 hc
/-- a class that makes plain objects: its __init__ -/
noncomputable def clsOk (K : Frag) (C fI : Addr) : Bool := makesIn K C && ((match findIn K (.ref C) "__init__" with
    | some (some (.ref f)) => Nat.beq f fI
    | _ => false) && isFn K (.ref fI))
theorem clsOk_of {K : Frag} {C fI : Addr} (h : clsOk K C fI = true) : makesIn K C = true ∧ findIn K (.ref C) "__init__" = some (some (.ref fI)) ∧ isFn K (.ref fI) = true := by
  unfold clsOk at h
  rw [Bool.and_eq_true, Bool.and_eq_true] at h
  obtain ⟨h1, h2, h3⟩ := h
  split at h2
  · rename_i e; rw [e, Nat.eq_of_beq_eq_true h2]; exact ⟨h1, rfl, h3⟩
  · cases h2
theorem CodeTo.new {C fI : Addr} {cells2 : List MO} (hm : clsOk (KK w) C fI = true) (H : CodeTo g (n + 1) fI (.mob C cells.length :: args) (cells ++ [.dict []]) .none cells2) :
    CodeTo g (n + 2) C args cells (.mob C cells.length) cells2 := by
  intro A h0 tk gs dr os F cs vs S RR kQ
  obtain ⟨m1, m2, m3⟩ := clsOk_of hm
  obtain ⟨hF, C', ⟨⟨base, outer, B⟩, X, T, hdp, hu, hh⟩, ia⟩ := S
  have up : ∀ b o, (hideAll h0 (cs.map (·.1))).get? b = some o → h0.get? b = some o := fun b o e => of_hideAll _ e
  have X0 := X.keeps up
  refine make_core (makes_of X0 m1) (looks_findIn X0 m2) (fun self => bind_fn X0 self (beq_iff_eq.mp m3)) (.inl rfl) ?_
  generalize eD : h0.objs.size = D
  have k : ∀ b o, h0.get? b = some o → ((h0.push emptyDict).push (instObj C D)).get? b = some o := fun b o e => Heap.get?_push_of_some _ (Heap.get?_push_of_some _ e)
  have hx : ((h0.push emptyDict).push (instObj C D)).get? (D + 1) = some (instObj C D) := by
    have := Heap.get?_push_size (h := h0.push emptyDict) (o := instObj C D) rfl
    rwa [Heap.size_push, eD] at this
  have hdx : ((h0.push emptyDict).push (instObj C D)).get? D = some emptyDict := Heap.get?_push_of_some _ (eD ▸ Heap.get?_push_size (h := h0) (o := emptyDict) rfl)
  have lt : ∀ {a o}, h0.get? a = some o → a < D := fun e => eD ▸ Heap.lt_size e
  have fresh : ∀ x, D ≤ x → h0.get? x = none := fun x hx => by
    cases e : h0.get? x with
    | none => rfl
    | some o' => exact absurd (lt e) (Nat.not_lt.mpr hx)
  have nin : ∀ {a}, D ≤ a → a ∉ cs.map (·.1) := fun {a} ha hm => by
    obtain ⟨p, hp, e⟩ := List.mem_map.mp hm
    exact absurd (e ▸ lt (C'.at_ p hp)) (Nat.not_lt.mpr ha)
  have ems : (cs ++ [(D, emptyDict)]).map (·.1) = cs.map (·.1) ++ [D] := List.map_append
  have inS : ∀ {a}, a ∈ (cs ++ [(D, emptyDict)]).map (·.1) → a ∈ cs.map (·.1) ∨ a = D := fun {a} h => by
    rw [ems] at h
    exact (List.mem_append.mp h).imp id List.mem_singleton.mp
  have hid : ∀ b o, (hideAll h0 (cs.map (·.1))).get? b = some o → (hideAll ((h0.push emptyDict).push (instObj C D)) ((cs ++ [(D, emptyDict)]).map (·.1))).get? b = some o := fun b o e => by
    refine hideAll_get _ (k b o (up b o e)) fun hm => ?_
    rcases inS hm with hm | rfl
    · rw [hideAll_none _ hm] at e; cases e
    · exact absurd (lt (up _ _ e)) (Nat.lt_irrefl _)
  have B' : Below (A.under (.builtin "type.__call__" ⟨.ref C :: vs, []⟩)) base outer (hideAll h0 (cs.map (·.1))) := ⟨by
    have := B.stack
    obtain ⟨hd0, dp, fs, gd, un⟩ := A
    cases this
    rfl, B.stays, B.frames⟩
  have eF : ∀ a o, F a o → (F a o ∨ (a, o) = (D + 1, instObj C D)) := fun _ _ q => .inl q
  have mm : ∀ (i : Nat) a, (cs.map (·.1))[i]? = some a → ((cs ++ [(D, emptyDict)]).map (·.1))[i]? = some a := fun i a q => by rw [ems]; exact msnoc i a q
  have mk : ((cs ++ [(D, emptyDict)]).map (·.1))[cells.length]? = some D := by
    rw [C'.len, ems, List.getElem?_append_right (by rw [List.length_map]; exact Nat.le_refl _), List.length_map, Nat.sub_self]; rfl
  have hxn : (D + 1) ∉ (cs ++ [(D, emptyDict)]).map (·.1) := fun hm => (inS hm).elim (nin (Nat.le_succ _)) (Nat.succ_ne_self D)
  refine H (A.under (.builtin "type.__call__" ⟨.ref C :: vs, []⟩)) _ tk gs dr os (fun a o => F a o ∨ (a, o) = (D + 1, instObj C D)) (cs ++ [(D, emptyDict)]) (.ref (D + 1) :: vs) ⟨fun a o q => ?_, ⟨fun p hp => ?_, ?_, ?_, fun i mo e => ?_⟩,
    ⟨⟨base, outer, B'.stack, fun b o e => hid b o (B'.stays b o e), B'.frames.of_keeps fun b o e _ => ⟨o, hid b o e, rfl⟩⟩, X.keeps hid, T.keeps hid, by rw [depth_under_make]; omega, by rw [units_under_make]; omega, hh⟩, .cons (.mob (.inr rfl) mk) (ia.mono eF mm)⟩ _ fun v h' tk' tl cs' ex L iv => ?_
  · rcases q with q | q
    · exact hid _ _ (hF _ _ q)
    · cases q
      exact hideAll_get _ hx hxn
  · rcases List.mem_append.mp hp with hp | hp
    · exact k _ _ (C'.at_ p hp)
    · rw [List.mem_singleton.mp hp]; exact hdx
  · rw [ems]
    exact nodup_snoc C'.nodup (nin (Nat.le_refl _))
  · rw [List.length_append, List.length_append, C'.len]; rfl
  · rcases get_snoc e with e | ⟨rfl, rfl⟩
    · obtain ⟨a, o, e, im⟩ := C'.is i mo e
      exact ⟨a, o, (List.getElem?_append_left (List.getElem?_eq_some_iff.mp e).1).trans e, im.mono eF mm⟩
    · exact ⟨D, emptyDict, by rw [C'.len, List.getElem?_append_right (Nat.le_refl _), Nat.sub_self]; rfl, .dict (es := []) .nil⟩
  · rw [iv.none_inv]
    have old : ∀ {a}, ((h0.push emptyDict).push (instObj C D)).get? a = none → h0.get? a = none := fun {a} e => by
      cases q : h0.get? a with
      | none => rfl
      | some o => rw [k _ _ q] at e; cases e
    have upF : ∀ a o, ((F a o ∨ (a, o) = (D + 1, instObj C D)) ∨ (a, o) ∈ tl) → F a o ∨ (a, o) ∈ (D + 1, instObj C D) :: tl := fun a o q => by
      rcases q with (q | q) | q
      · exact .inl q
      · exact .inr (by rw [q]; exact .head _)
      · exact .inr (.tail _ q)
    refine ⟨rfl, kQ (.ref (D + 1)) h' tk' ((D + 1, instObj C D) :: tl) cs' (D :: ex) ⟨fun b o hb e => L.keep b o (fun hm => ?_) (k _ _ e), all_cons ⟨L.keep _ _ hxn hx, fresh _ (Nat.le_succ _)⟩ fun p hp => ⟨(L.new p hp).1, old (L.new p hp).2⟩, ?_,
      all_cons ⟨fresh _ (Nat.le_refl _), all_cons (P := fun p : Addr × Obj => p.1 ≠ D) (Nat.succ_ne_self D) fun p hp e => ?_⟩ fun a ha => ⟨old (L.fresh a ha).1, all_cons (P := fun p : Addr × Obj => p.1 ≠ a) (fun e => ?_) (L.fresh a ha).2⟩, L.cells.mono upF⟩ (.mob (.inr (.head _)) ?_)⟩
    · rcases inS hm with hm | rfl
      · exact hb hm
      · exact absurd (lt e) (Nat.lt_irrefl _)
    · rw [L.ms, ems, List.append_assoc]; rfl
    · have := (L.new p hp).2
      rw [e, hdx] at this; cases this
    · have := (L.fresh a ha).1
      rw [← e, hx] at this; cases this
    · rw [L.ms, List.getElem?_append_left (List.getElem?_eq_some_iff.mp mk).1]; exact mk
end
end

end
noncomputable section
noncomputable section
/-! functions with names of which a comprehension knows -/
section
variable {kind : Str → Option NameKind}
theorem bindL_at {y : Str} {v : Value} {l : List (Str × Value)} (hn : (l.map (·.1)).Nodup) (hm : (y, v) ∈ l) (hk : kind y = some .local) : ∀ m, bindL kind l m y = some v := by
  have keep : ∀ (l : List (Str × Value)) (m : Str → Option Value), y ∉ l.map (·.1) → bindL kind l m y = m y := by
    intro l
    induction l with
    | nil => exact fun _ _ => rfl
    | cons e r ih =>
      intro m h
      have h1 : y ≠ e.1 := fun q => h (q ▸ .head _)
      show bindL kind r (if kind e.1 = some .local then fun z => if z = e.1 then some e.2 else m z else m) y = m y
      rw [ih _ fun q => h (.tail _ q)]
      split
      · exact if_neg h1
      · rfl
  induction l with
  | nil => cases hm
  | cons e r ih =>
    rw [List.map_cons, List.nodup_cons] at hn
    intro m
    rcases List.mem_cons.mp hm with rfl | hm
    · show bindL kind r (if kind y = some .local then fun z => if z = y then some v else m z else m) y = some v
      rw [keep r _ hn.1, if_pos hk]; exact if_pos rfl
    · exact ih hn.2 hm _
theorem bindC_keep {y : Str} {l : List (Str × Value)} : ∀ m : Str → Option Value, y ∉ l.map (·.1) → bindC kind l m y = m y := by
  induction l with
  | nil => exact fun _ _ => rfl
  | cons e r ih =>
    intro m h
    have h1 : y ≠ e.1 := fun q => h (q ▸ .head _)
    show bindC kind r (if kind e.1 = some .local then m else fun z => if z = e.1 then some e.2 else m z) y = m y
    rw [ih _ fun q => h (.tail _ q)]
    split
    · rfl
    · exact if_neg h1
theorem bindC_at {y : Str} {v : Value} {l : List (Str × Value)} (hn : (l.map (·.1)).Nodup) (hm : (y, v) ∈ l) (hk : kind y ≠ some .local) : ∀ m, bindC kind l m y = some v := by
  induction l with
  | nil => cases hm
  | cons e r ih =>
    rw [List.map_cons, List.nodup_cons] at hn
    intro m
    rcases List.mem_cons.mp hm with rfl | hm
    · show bindC kind r (if kind y = some .local then m else fun z => if z = y then some v else m z) y = some v
      rw [bindC_keep _ hn.1, if_neg hk]; exact if_pos rfl
    · exact ih hn.2 hm _
end
theorem cells_at {cm : Str → Option Value} {l : List (Str × Addr)} {cells : List (Addr × Obj)} (h : CellsAre cm l cells) : cells.map (·.1) = l.map (·.2) ∧ ∀ (i : Nat) y a, l[i]? = some (y, a) → ∃ o, cells[i]? = some (a, o) ∧ o.data = .cell (cm y) := by
  induction h with
  | nil => exact ⟨rfl, fun i y a e => (nil_get e).elim⟩
  | cons hd _ ih =>
    refine ⟨congrArg _ ih.1, fun i y a e => ?_⟩
    cases i with
    | zero => cases e; exact ⟨_, rfl, hd⟩
    | succ i => exact ih.2 i y a e
theorem lk_mem {α : Type} {x : Str} {v : α} {l : List (Str × α)} (e : lk x l = some v) : (x, v) ∈ l := by
  induction l with
  | nil => cases e
  | cons y l ih =>
    have e : cond (strEq x y.1) (some y.2) (lk x l) = some v := e
    cases hs : strEq x y.1 with
    | true => rw [hs] at e; cases e; rw [strEq_iff.mp hs]; exact .head _
    | false => rw [hs] at e; exact .tail _ (ih e)
/-- a def with cells -/
structure FnAtC (K : Frag) (f : Addr) (names cn : List Str) : Prop where
  ok : fnOk K f = true
  kinds : (names.all fun x => (scopeOf K f).names.lookup x == some .local || (scopeOf K f).names.lookup x == some .cell) = true
  nodup : names.Nodup
  bind : ∀ vs : List Value, vs.length = names.length → bindArgs (fdAt K f) ⟨vs, []⟩ = pure (names.zip vs)
  cells : (cellsFrom 0 (scopeOf K f).names []).map (·.1) = cn
  cnd : cn.Nodup
section
variable {w : World} {g : Gl w} {n f : Nat} {args : List PV} {names cn : List Str} {p r : PV} {fl : AF} {st0 st1 : AS}
theorem enter_cells {t : Bool} (hf : FnAtC (KK w) f names cn) (hlen : names.length = args.length)
    (hl : ∀ e ∈ st0.loc, ((e.1, e.2) ∈ names.zip args ∧ isLocal (scopeOf (KK w) f) e.1 = true) ∨ (∃ i, e.2 = .var i ∧ cn[i]? = some e.1 ∧ isKind (scopeOf (KK w) f) e.1 .cell = true)) (hcl : st0.cells.length = cn.length)
    (hc : ∀ (i : Nat) mo, st0.cells[i]? = some mo → ∃ y, cn[i]? = some y ∧ ((∃ p, (y, p) ∈ names.zip args ∧ isKind (scopeOf (KK w) f) y .cell = true ∧ mo = MO.var p) ∨ (y ∉ names ∧ mo = MO.novar)))
    (h : ExsG ⟨g, n, scopeOf (KK w) f, true, t⟩ (bodyOf (KK w) f) st0 fl st1) (hfl : fl.val = some p) (hz : fz 9 st1.cells 0 p = r) (ncl : NCL args) {A : Around} {h0 : Heap} {tk : Nat} {gs : Array GenState} {dr : Drawn} {os : OsState} {F : Addr → Obj → Prop} {cs : List (Addr × Obj)} {vs : List Value} (S : Start g (n + 1) A h0 F [] cs args vs) (htop : t = true → A.frames = some [])
    (Q : Value → Shared → Prop) (kQ : ∀ v h' tk' tl cs' ex, Left w F h0 h' cs cs' tl ex [] → Is w (fun a o => F a o ∨ (a, o) ∈ tl) (cs'.map (·.1)) r v → Q v ⟨h', gs, dr, tk', os⟩) : wpAny (model g.prog w) A (call (.ref f) vs) Q never ⟨h0, gs, dr, tk, os⟩ := by
  obtain rfl : cs = [] := List.eq_nil_of_length_eq_zero S.cells.len.symm
  obtain ⟨name, qual, params, body, scope, dV, kV, doc, pm, an, cdv, ct, oc, od, osl, ho, hcd, hco, hgen, hkd, hfd⟩ := fn_of hf.ok
  obtain ⟨hF, C, ⟨⟨base, outer, B⟩, X, T, hdp, hu, hh⟩, ia⟩ := S
  have hF : ∀ a o, F a o → h0.get? a = some o := hF
  have X : (hd.heap_39 w.params).In h0 := X
  have T : Top g.p g.loose g.mean g.mg g.mb h0 := T
  have B : Below A base outer h0 := B
  have hl0 : recursionLimit = 1000 := rfl
  have hsc : scopeOf (KK w) f = scope := by unfold scopeOf; rw [hfd]
  have hbd : bodyOf (KK w) f = body := by unfold bodyOf; rw [hfd]
  have hlv : names.length = vs.length := hlen.trans ia.length
  have hzk : (names.zip vs).map (·.1) = names := List.map_fst_zip (Nat.le_of_eq hlv)
  have hbt : BindsTo ⟨h0, gs, dr, tk, os⟩ (fnOf name qual params body scope dV kV doc pm an cdv ct) ⟨vs, []⟩ (names.zip vs) := BindsTo.of_eq (by rw [← hfd]; exact hf.bind vs hlv.symm)
  have hkinds := hf.kinds
  have hcn := hf.cells
  rw [hsc] at hkinds hcn hl hc
  refine wpAny_call (codeAny_call_function (by omega) (X _ _ ho) rfl hco hgen rfl (codeRec_of X hcd) (hbt _ _ _ _ ?_))
  refine wpAny_newFunctionEnv_cells hkd (kindsX (by
    rw [List.all_eq_true]
    intro y hy
    have := List.mem_map_of_mem (f := (·.1)) hy
    rw [hzk] at this
    exact List.all_eq_true.mp hkinds _ this) _) fun env' he s' x => ?_
  subst he
  refine ⟨T.nolimit.keeps x.toInCall.keep, codeAny_func ?_⟩
  obtain ⟨h₁, tk1, rfl, _⟩ := x.done
  have cnE : ∀ m, (cellsFrom m scope.names []).map (·.1) = cn := fun m => (cellsFrom_names scope.names m 0 [] [] rfl).trans hcn
  have nd1 : ((cellsFrom (h0.objs.size + 1) scope.names []).map (·.1)).Nodup := by rw [cnE]; exact hf.cnd
  obtain ⟨cells, NC', Y⟩ := Cl.news (h₀ := h0) (Nat.le_refl _) fun y a hm => ⟨x.cell y a (lookup_of_mem_nodup nd1 hm), x.above y a hm⟩
  obtain ⟨em, at_⟩ := cells_at Y
  let env := envOfC qual scope h0.objs.size f cdv
  let c : Act w := { g with env := env, A := A.deeper env, H := h0, L := h0.objs.size, n := n, gs, dr, os, F, hF, X, T,
                            sur := fun h m cs' F' N' => by
                              obtain ⟨FG, BG, st', _⟩ := groundX (R := fun _ _ => True) (s := { heap := h }) (A := A.deeper env) (env := env) B F' N' (by rw [Around.frames_deeper B.stack]) rfl hkd
                              exact ⟨⟨base, env :: outer, BG⟩, X.keeps st', T.keeps st', by show A.depth + 1 + n ≤ 400; omega, by show A.units + 3 + 10 * n ≤ 1000; omega, hh⟩,
                            units := by show A.units + 3 < 9000; omega, hand := hh, kind := hkd, glob := rfl, blt := rfl }
  have cell_at : ∀ {i : Nat} {y}, cn[i]? = some y → ∃ a o, env.cells.lookup y = some a ∧ cells[i]? = some (a, o) ∧ o.data = .cell (bindC env.kindOf (names.zip vs) (fun _ => none) y) := fun {i y} e => by
    rw [← cnE (h0.objs.size + 1), List.getElem?_map] at e
    cases q : (cellsFrom (h0.objs.size + 1) scope.names [])[i]? with
    | none => rw [q] at e; cases e
    | some ya =>
      rw [q] at e
      cases e
      obtain ⟨o, ho, hd⟩ := at_ i ya.1 ya.2 q
      exact ⟨ya.2, o, lookup_of_mem_nodup nd1 (List.mem_of_getElem? q), ho, hd⟩
  have zipv : ∀ {y p}, (y, p) ∈ names.zip args → ∃ v, (y, v) ∈ names.zip vs ∧ Is w F [] p v := fun {y p} hm => by
    obtain ⟨i, hi, e⟩ := List.getElem_of_mem hm
    have e1 : (names.zip args)[i]? = some (y, p) := by rw [← e]; exact List.getElem?_eq_getElem _
    obtain ⟨e2, e3⟩ := List.getElem?_zip_eq_some.mp e1
    obtain ⟨v, e4, iv⟩ := ia.get e3
    exact ⟨v, List.mem_of_getElem? (List.getElem?_zip_eq_some.mpr ⟨e2, e4⟩), iv⟩
  have up0 : ∀ {p v}, (∃ y, (y, p) ∈ names.zip args) → Is w F [] p v → Is w (Wd.fact ⟨[], cells.map (·.1)⟩ c.F) (cells.map (·.1)) p v := fun {p v} ⟨y, hm⟩ iv => iv.mono (fun a o q => .inl q) fun i a q => (nil_get q).elim
  have clen : cn.length = cells.length := by
    have := congrArg List.length em
    rw [List.length_map, List.length_map] at this
    rw [this, ← cnE (h0.objs.size + 1), List.length_map]; rfl
  have R0 : RepX c ⟨[], cells.map (·.1)⟩ st0 h₁ (bindL env.kindOf (names.zip vs) fun _ => none) cells := by
    refine ⟨⟨x.toInCall.ns, x.toInCall.keep, Nat.le_refl _⟩, fun p hp => ?_, rfl, ?_, fun p hp => (nomatch hp), fun y p e => ?_, by rw [hcl, clen], fun i mo e => ?_⟩
    · rw [List.append_nil] at hp
      exact NC' p hp
    · rw [em]
      exact List.pairwise_map.mpr x.apart
    · rcases hl _ (lk_mem e) with ⟨hm, hk⟩ | ⟨i, rfl, hi, hk⟩
      · obtain ⟨v, hv, iv⟩ := zipv hm
        exact .frame (up0 ⟨_, hm⟩ iv) (bindL_at (by rw [hzk]; exact hf.nodup) hv (isLocal_of hk) _)
      · obtain ⟨a, o, e1, e2, _⟩ := cell_at hi
        refine .var (fun q => ?_) e1 (by show (cells.map (·.1))[i]? = _; rw [List.getElem?_map, e2]; rfl)
        have := isKind_of hk
        rw [show c.env.scope = scope from rfl, this] at q; cases q
    · obtain ⟨y, hy, h1⟩ := hc i mo e
      obtain ⟨a, o, e1, e2, hd⟩ := cell_at hy
      refine ⟨a, o, e2, ?_⟩
      rcases h1 with ⟨p, hm, hk, rfl⟩ | ⟨hn, rfl⟩
      · obtain ⟨v, hv, iv⟩ := zipv hm
        refine .var (hd.trans (congrArg _ (bindC_at (by rw [hzk]; exact hf.nodup) hv (fun q => ?_) _))) (up0 ⟨_, hm⟩ iv)
        have := isKind_of hk
        rw [show env.kindOf y = scope.names.lookup y from rfl, this] at q; cases q
      · exact .novar (hd.trans (congrArg _ (bindC_keep _ (by rw [hzk]; exact hn))))
  have key := h c ⟨rfl, rfl, hsc.symm, fun _ => rfl, fun e => ⟨Around.frames_deeper (htop e), rfl⟩⟩ ⟨[], cells.map (·.1)⟩ h₁ tk1 ⟨_, _, R0⟩ (fun fl s' => Q (match fl with | .ret v => v | _ => .none) s') fun W' fl' h' tk' le ⟨m', csf, R'⟩ ifl => by
    have main : ∀ v, Is w (W'.fact c.F) W'.ms p v → Q v (c.sh h' tk') := fun v iv => by
      have Z : Fz w st1 0 ⟨[], []⟩ := ⟨Nat.zero_le _, rfl, fun x r e => (nomatch e), fun i r e => (nil_get e).elim⟩
      have D := (R'.freeze Z).left (h0 := h0) (cs0 := []) (rest := []) rfl rfl
      refine kQ v h' tk' _ _ [] D ?_
      rw [← hz]
      exact Drop.fz p _ _ csf (R'.cut 0) v (by rw [R'.ms]; exact iv)
    cases ifl with
    | next => cases hfl; exact main _ .none
    | ret iv => cases hfl; exact main _ iv
    | brk => cases hfl
    | cont => cases hfl
  rw [hbd] at key
  exact wpAny_mono key (fun _ _ x => x) (fun _ _ x => x.elim)
theorem codeTo_cells (hf : FnAtC (KK w) f names cn) (hlen : names.length = args.length)
    (hl : ∀ e ∈ st0.loc, ((e.1, e.2) ∈ names.zip args ∧ isLocal (scopeOf (KK w) f) e.1 = true) ∨ (∃ i, e.2 = .var i ∧ cn[i]? = some e.1 ∧ isKind (scopeOf (KK w) f) e.1 .cell = true)) (hcl : st0.cells.length = cn.length)
    (hc : ∀ (i : Nat) mo, st0.cells[i]? = some mo → ∃ y, cn[i]? = some y ∧ ((∃ p, (y, p) ∈ names.zip args ∧ isKind (scopeOf (KK w) f) y .cell = true ∧ mo = MO.var p) ∨ (y ∉ names ∧ mo = MO.novar)))
    (h : ExsG (.of g n f) (bodyOf (KK w) f) st0 fl st1) (hfl : fl.val = some p) (hz : fz 9 st1.cells 0 p = r) (ncl : NCL args) : CallTo g (n + 1) f args [] r [] :=
  fun _ _ _ _ _ _ _ _ _ S Q kQ => enter_cells (t := false) hf hlen hl hcl hc h hfl hz ncl S (fun e => nomatch e) Q kQ
end
end

end
noncomputable section
noncomputable section
structure NBS (st : AS) : Prop where
  loc : ∀ y ∈ st.loc, NB st.cells.length y.2
  cells : ∀ mo ∈ st.cells, NBM st.cells.length mo
theorem lk_some {α : Type} {x : Str} {v : α} {l : List (Str × α)} (e : lk x l = some v) : ∃ y, (y, v) ∈ l := by
  induction l with
  | nil => cases e
  | cons y l ih =>
    have e : cond (strEq x y.1) (some y.2) (lk x l) = some v := e
    cases hs : strEq x y.1 with
    | true => rw [hs] at e; cases e; exact ⟨y.1, .head _⟩
    | false =>
      rw [hs] at e
      obtain ⟨z, hz⟩ := ih e
      exact ⟨z, .tail _ hz⟩
noncomputable def raws (os : List (Addr × Obj)) : List MO := os.map fun p => .raw p.2
section
variable {w : World} {c : Act w} {st st1 : AS} {p q r : PV} {h h' : Heap} {m : Str → Option Value} {cs : List (Addr × Obj)} {fr : List (Addr × Obj)} {ms ex : List Addr} {W : Wd}
/-- the last cells let go -/
theorem RepX.less {os : List MO} (R : RepX c ⟨fr, ms ++ ex⟩ { st with cells := st.cells ++ os } h m cs) (hl : st.cells.length = ms.length) (n : NBS st) : RepX c ⟨fr, ms⟩ st h m (cs.take st.cells.length) := by
  have hk : ∀ i, i < st.cells.length → (ms ++ ex)[i]? = ms[i]? := fun i hi => List.getElem?_append_left (hl ▸ hi)
  refine ⟨R.fr, fun p hp => R.news p ?_, ?_, (List.nodup_append.mp R.nodup).1, fun p hp hm => R.sep p hp (List.mem_append_left _ hm), fun y p e => ?_, ?_, fun i mo e => ?_⟩
  · exact (List.mem_append.mp hp).elim (fun hp => List.mem_append_left _ (List.mem_of_mem_take hp)) fun hp => List.mem_append_right _ hp
  · rw [List.map_take, R.ms, hl]; exact List.take_left
  · obtain ⟨z, hz⟩ := lk_some e
    have nb := n.loc _ hz
    cases R.loc y p e with
    | frame i e => exact .frame (nb.is hk _ i) e
    | var n e1 e2 => cases nb with | var hi => exact .var n e1 ((hk _ hi).symm.trans e2)
    | nsv n e1 => cases nb with | nsv hi => exact .nsv n ((hk _ hi).symm.trans e1)
  · have := R.len
    rw [List.length_append] at this
    rw [List.length_take]; exact (Nat.min_eq_left (by omega)).symm
  · have hi := (List.getElem?_eq_some_iff.mp e).1
    obtain ⟨a, o, e5, im⟩ := R.cells i mo (by show (st.cells ++ _)[i]? = _; rw [List.getElem?_append_left hi]; exact e)
    exact ⟨a, o, by rw [List.getElem?_take_of_lt hi]; exact e5, (n.cells mo (List.mem_of_getElem? e)).is hk im⟩
/-- more cells -/
theorem RepX.moreM {os : List (Addr × Obj)} {mos : List MO} (R : RepX c W st h m cs) (N' : News c.H c.L h os) (nd : (os.map (·.1)).Nodup) (ne : ∀ a ∈ os.map (·.1), ∀ p ∈ cs ++ W.fr, p.1 ≠ a) (hl : mos.length = os.length)
    (him : ∀ (j : Nat) mo, mos[j]? = some mo → ∃ x, os[j]? = some x ∧ IsM w (Wd.fact ⟨W.fr, W.ms ++ os.map (·.1)⟩ c.F) (W.ms ++ os.map (·.1)) mo x.2) :
    RepX c ⟨W.fr, W.ms ++ os.map (·.1)⟩ { st with cells := st.cells ++ mos } h m (cs ++ os) := by
  have l2 : W.le ⟨W.fr, W.ms ++ os.map (·.1)⟩ := ⟨fun _ q => q, fun i a q => (List.getElem?_append_left (List.getElem?_eq_some_iff.mp q).1).trans q⟩
  refine ⟨R.fr, fun p hp => ?_, by rw [List.map_append, R.ms], List.nodup_append.mpr ⟨R.nodup, nd, fun a ha b hb e => ?_⟩, fun p hp hm => ?_, fun x p e => (R.loc x p e).up l2, ?_, fun i mo e => ?_⟩
  · rcases List.mem_append.mp hp with h | h
    · exact (List.mem_append.mp h).elim (fun h => R.news p (List.mem_append_left _ h)) fun h => N' p h
    · exact R.news p (List.mem_append_right _ h)
  · rw [← R.ms] at ha
    obtain ⟨p, hp, e'⟩ := List.mem_map.mp ha
    exact ne b hb p (List.mem_append_left _ hp) (e'.trans e)
  · exact (List.mem_append.mp hm).elim (R.sep p hp) fun hm => ne _ hm p (List.mem_append_right _ hp) rfl
  · rw [List.length_append, List.length_append, R.len, hl]
  · by_cases hi : i < st.cells.length
    · have e : (st.cells ++ mos)[i]? = some mo := e
      rw [List.getElem?_append_left hi] at e
      obtain ⟨a, o, e1, im⟩ := R.cells i mo e
      exact ⟨a, o, (List.getElem?_append_left (List.getElem?_eq_some_iff.mp e1).1).trans e1, im.up l2⟩
    · have hi := Nat.not_lt.mp hi
      have e : (st.cells ++ mos)[i]? = some mo := e
      rw [List.getElem?_append_right hi] at e
      obtain ⟨x, e2, im⟩ := him _ _ e
      exact ⟨x.1, x.2, by rw [List.getElem?_append_right (by rw [← R.len]; exact hi), ← R.len]; exact e2, im⟩
/-- more cells that nobody knows of -/
theorem RepX.more {os : List (Addr × Obj)} (R : RepX c W st h m cs) (N' : News c.H c.L h os) (nd : (os.map (·.1)).Nodup) (ne : ∀ a ∈ os.map (·.1), ∀ p ∈ cs ++ W.fr, p.1 ≠ a) :
    RepX c ⟨W.fr, W.ms ++ os.map (·.1)⟩ { st with cells := st.cells ++ raws os } h m (cs ++ os) := R.moreM N' nd ne (List.length_map _) fun j mo e => by
  unfold raws at e
  rw [List.getElem?_map] at e
  cases e2 : os[j]? with
  | none => rw [e2] at e; cases e
  | some x => rw [e2] at e; cases e; exact ⟨x, rfl, .raw⟩
/-- the heap changed at cells that are let go -/
theorem RepX.off' {a : Addr} (R : RepX c W st h m cs) (hm : a ∈ W.ms) : c.H.get? a = none ∧ a ≠ c.L := R.off (by rw [R.ms]; exact hm)
theorem RepX.apart {wr : List Addr} (R : RepX c W st h m cs) (k : ∀ b o, b ∉ wr → h.get? b = some o → h'.get? b = some o) (hL : ∀ a ∈ wr, c.H.get? a = none ∧ a ≠ c.L) (hm : ∀ p ∈ cs ++ W.fr, p.1 ∉ wr) : RepX c W st h' m cs :=
  R.same ⟨R.fr.ns.at' fun o e => k _ _ (fun q => (hL _ q).2 rfl) e, fun b o e => k b o (fun q => by rw [(hL _ q).1] at e; cases e) (R.fr.keep b o e), R.fr.above⟩ fun p hp => ⟨k _ _ (hm p hp) (R.news p hp).1, (R.news p hp).2⟩
theorem RepX.disj {os : List MO} (R : RepX c ⟨fr, ms ++ ex⟩ { st with cells := st.cells ++ os } h m cs) (hl : st.cells.length = ms.length) : ∀ p ∈ cs.take st.cells.length ++ fr, p.1 ∉ ex := fun p hp hm => by
  rcases List.mem_append.mp hp with hp | hp
  · refine (List.nodup_append.mp R.nodup).2.2 p.1 ?_ _ hm rfl
    have : (cs.take st.cells.length).map (·.1) = ms := by rw [List.map_take, R.ms, hl]; exact List.take_left
    rw [← this]; exact List.mem_map_of_mem hp
  · exact R.sep p hp (List.mem_append_right _ hm)
theorem RepX.lastAt {os : List (Addr × Obj)} (R : RepX c ⟨fr, ms ++ os.map (·.1)⟩ { st with cells := st.cells ++ raws os } h m cs) (hl : st.cells.length = ms.length) : ∀ p ∈ os, h.get? p.1 = some p.2 := fun p hp => by
  obtain ⟨i, hi, e⟩ := List.getElem_of_mem hp
  have e : os[i]? = some p := by rw [← e]; exact List.getElem?_eq_getElem _
  have hge : st.cells.length ≤ st.cells.length + i := Nat.le_add_right _ _
  obtain ⟨o, _, ho, im⟩ := R.cellAt (i := st.cells.length + i) (mo := .raw p.2) (a := p.1) (by
    show (st.cells ++ raws os)[_]? = _
    rw [List.getElem?_append_right hge, Nat.add_sub_cancel_left]
    unfold raws
    rw [List.getElem?_map, e]; rfl) (by
    show (ms ++ _)[_]? = _
    rw [hl, List.getElem?_append_right (Nat.le_add_right _ _), Nat.add_sub_cancel_left, List.getElem?_map, e]; rfl)
  cases im
  exact ho
theorem Wd.le.exact {W1 : Wd} (le : Wd.le ⟨fr, ms ++ ex⟩ W1) (R : RepX c W1 st h m cs) (hl : st.cells.length = ms.length + ex.length) : W1.ms = ms ++ ex := by
  obtain ⟨rest, er⟩ := prefix_of le.ms
  have : W1.ms.length = ms.length + ex.length := by rw [← R.ms, List.length_map, ← R.len, hl]
  rw [er, List.length_append, List.length_append] at this
  rw [er, List.eq_nil_of_length_eq_zero (l := rest) (by omega), List.append_nil]
noncomputable def IsRaw (its : Nat) (os : List MO) : Prop := os.length = its ∧ ∀ mo ∈ os, ∃ o, mo = .raw o
theorem raws_raw {os : List (Addr × Obj)} : ∀ mo ∈ raws os, ∃ o, mo = .raw o := fun mo hm => by
  obtain ⟨x, _, rfl⟩ := List.mem_map.mp hm
  exact ⟨_, rfl⟩
/-- a run of for: the states before the turns, and how it ends -/
structure ForR (c : Act w) (tgt : PV → AS → AS) (body : List Stmt) (its : Nat) (t : Its) (item : Nat → PV → PV) (S : Nat → AS) (stop : Nat) (f : AF) (st' : AS) : Prop where
  nb : ∀ i, i ≤ stop → NBS (S i)
  len : ∀ i, i < stop → (S (i + 1)).cells.length = (S i).cells.length
  step : ∀ i q (os : List MO), IsRaw its os → i < stop → t.at? i = some q → Exs c body (tgt (item i q) { S i with cells := (S i).cells ++ os }) .next { S (i + 1) with cells := (S (i + 1)).cells ++ os }
  fin : (stop = t.len ∧ f = .next ∧ st' = S stop) ∨ (stop < t.len ∧ ∃ r, f = .ret r ∧ NB st'.cells.length r ∧ NBS st' ∧ st'.cells.length = (S stop).cells.length ∧ ∀ q (os : List MO), IsRaw its os → t.at? stop = some q → Exs c body (tgt (item stop q) { S stop with cells := (S stop).cells ++ os }) (.ret r) { st' with cells := st'.cells ++ os })
/-- what a for goes over -/
structure Src (c : Act w) (target : Expr) (I : Addr) (fp wr : List Addr) (P Md : Nat → Value → Heap → Prop) (Stt : Nat → Heap → Prop) (W0 : Wd) (tgt : PV → AS → AS) (t : Its) (item : Nat → PV → PV) (S : Nat → AS) (stop : Nat) : Prop where
  K : KTurns c.prog w c.A target I fp wr t.len P Md Stt
  obj : ∀ i h, Stt i h → ∃ os : List (Addr × Obj), os.map (·.1) = wr ∧ ∀ p ∈ os, h.get? p.1 = some p.2
  fp : ∀ b ∈ fp, b ∈ wr ∨ ∃ o, W0.fact c.F b o
  tg : ∀ i v W1 os h tk, i < t.len → i ≤ stop → P i v h → W0.le W1 → os.length = wr.length → Rep c W1 { S i with cells := (S i).cells ++ os } h → ∃ q, t.at? i = some q ∧ ∀ Q, To c W1 (tgt (item i q) { S i with cells := (S i).cells ++ os }) (fun _ _ => True) Q → wpAny c.M c.A (assign target c.env v) Q never (c.sh h tk)
noncomputable def FInv (c : Act w) (wr : List Addr) (Stt : Nat → Heap → Prop) (W0 : Wd) (t : Its) (S : Nat → AS) (stop k : Nat) (s' : Shared) : Prop :=
  ∃ i fr os h tk m cs, s' = c.sh h tk ∧ Stt i h ∧ os.map (·.1) = wr ∧ W0.le ⟨fr, W0.ms⟩ ∧ RepX c ⟨fr, W0.ms ++ wr⟩ { S i with cells := (S i).cells ++ raws os } h m cs ∧ i ≤ stop ∧ i ≤ t.len ∧ k = t.len + 1 - i
theorem gfor {target : Expr} {body : List Stmt} {I : Addr} {fp wr : List Addr} {P Md : Nat → Value → Heap → Prop} {Stt : Nat → Heap → Prop} {W0 : Wd} {tgt : PV → AS → AS} {t : Its} {item : Nat → PV → PV} {S : Nat → AS} {stop : Nat} {f : AF} {st' : AS} {h0 : Heap} {tk0 : Nat} {m0 : Str → Option Value} {cs0 os0 : List (Addr × Obj)} {Q : Flow → Shared → Prop} {RR : Result → Shared → Prop}
    (G : Src c target I fp wr P Md Stt W0 tgt t item S stop) (R : ForR c tgt body wr.length t item S stop f st') (hl0 : (S 0).cells.length = W0.ms.length) (e0 : os0.map (·.1) = wr) (R0 : RepX c ⟨W0.fr, W0.ms ++ wr⟩ { S 0 with cells := (S 0).cells ++ raws os0 } h0 m0 cs0) (s0 : Stt 0 h0)
    (kQ : To c W0 st' (Ifl c f) Q) (hRR : ∀ f s, Q f s → RR (.ok f) s) : codeAny c.M c.A (.forLoop target (.ref I) body [] c.env) RR (c.sh h0 tk0) := by
  have hlen : ∀ i, i ≤ stop → (S i).cells.length = W0.ms.length := fun i => by
    induction i with
    | zero => exact fun _ => hl0
    | succ i ih => exact fun hi => (R.len i hi).trans (ih (Nat.le_of_succ_le hi))
  have hL : ∀ a ∈ wr, c.H.get? a = none ∧ a ≠ c.L := fun a ha => R0.off' (List.mem_append_right _ ha)
  refine codeAny_forLoop_any (FInv c wr Stt W0 t S stop) ?_ (t.len + 1)
    ⟨0, W0.fr, os0, h0, tk0, m0, cs0, rfl, s0, e0, .rfl, R0, Nat.zero_le _, Nat.zero_le _, rfl⟩
  rintro k _ ⟨i, fr, os, h, tk, m, cs, rfl, st, eo, le, R1, hi, hi2, rfl⟩
  have X1 := R1.less (hlen i hi) (R.nb i hi)
  have dj := R1.disj (hlen i hi)
  by_cases hlt : i < t.len
  · refine G.K.item i _ _ _ hlt st fun v h1 tk1 hMd k1 => ?_
    refine G.K.go i v _ _ _ hMd fun h2 hP st2 k2 => ?_
    obtain ⟨os2, e2, a2⟩ := G.obj _ _ st2
    have X2 := X1.apart (h' := h2) (fun b o hb e => k2 b o hb (k1 b o hb e)) hL dj
    have X3 := X2.more (os := os2) (fun p hp => ⟨a2 p hp, (hL _ (e2 ▸ List.mem_map_of_mem hp)).2, (hL _ (e2 ▸ List.mem_map_of_mem hp)).1⟩) (by rw [e2]; exact (List.nodup_append.mp R0.nodup).2.1) (fun a ha p hp e => dj p hp (by rw [e, ← e2]; exact ha))
    rw [e2] at X3
    have hos : (raws os2).length = wr.length := by rw [← e2, List.length_map]; exact List.length_map _
    have leX : W0.le ⟨fr, W0.ms ++ wr⟩ := ⟨le.fr, fun i a q => (List.getElem?_append_left (List.getElem?_eq_some_iff.mp q).1).trans q⟩
    obtain ⟨q, hq, tg⟩ := G.tg i v ⟨fr, W0.ms ++ wr⟩ (raws os2) h2 tk1 hlt hi hP leX hos ⟨m, _, X3⟩
    refine wpAny_mono (tg _ fun W4 _ h4 tk4 le4 R4 _ => ?_) (fun _ s2 h => h) fun _ _ e => e.elim
    have back : ∀ {W5 h5 S'}, Wd.le W4 W5 → Rep c W5 { S' with cells := S'.cells ++ raws os2 } h5 → S'.cells.length = W0.ms.length → NBS S' → Stt (i + 1) h5 ∧ ∃ m5 cs5, W5.ms = W0.ms ++ wr ∧ RepX c ⟨W5.fr, W0.ms ++ wr⟩ { S' with cells := S'.cells ++ raws os2 } h5 m5 cs5 := fun {W5 h5 S'} le5 ⟨m5, cs5, R5⟩ hS nS => by
      have le6 := le4.trans le5
      have e5 : W5.ms = W0.ms ++ wr := le6.exact R5 (by show (S'.cells ++ _).length = _; rw [List.length_append, hos, hS])
      obtain ⟨fr5, ms5⟩ := W5
      obtain rfl : ms5 = W0.ms ++ wr := e5
      refine ⟨G.K.frame _ _ _ st2 fun b hb o e => ?_, m5, cs5, rfl, R5⟩
      rcases G.fp b hb with hb | ⟨o', ho'⟩
      · rw [← e2] at hb
        obtain ⟨p, hp, rfl⟩ := List.mem_map.mp hb
        rw [a2 p hp] at e
        cases e
        exact RepX.lastAt (os := os2) (by rw [e2]; exact R5) hS p hp
      · rw [X3.at (leX.fact _ _ ho')] at e
        cases e
        exact R5.at (le6.fact _ _ (leX.fact _ _ ho'))
    by_cases hst : i < stop
    · refine wpAny_mono (R.step i q (raws os2) ⟨hos, raws_raw⟩ hst hq W4 h4 tk4 R4 (fun f s3 => f = .next ∧ ∃ m, m < t.len + 1 - i ∧ FInv c wr Stt W0 t S stop m s3) fun W5 fl h5 tk5 le5 R5 ifl => ?_) (fun f s3 h => ?_) fun _ _ e => e.elim
      · cases ifl
        obtain ⟨st5, m5, cs5, e5, X5⟩ := back le5 R5 (hlen _ hst) (R.nb _ hst)
        exact ⟨rfl, t.len + 1 - (i + 1), by omega, i + 1, W5.fr, os2, h5, tk5, m5, cs5, rfl, st5, e2, le.trans ⟨fun p q => (le4.trans le5).fr p q, fun _ _ q => q⟩, X5, hst, hlt, rfl⟩
      · obtain ⟨rfl, h⟩ := h
        exact h
    · obtain rfl : i = stop := Nat.le_antisymm hi (Nat.not_lt.mp hst)
      rcases R.fin with ⟨e, _⟩ | ⟨_, r, rfl, nr, ns, nl, hret⟩
      · exact absurd hlt (e ▸ Nat.lt_irrefl _)
      · refine wpAny_mono (hret q (raws os2) ⟨hos, raws_raw⟩ hq W4 h4 tk4 R4 (fun f s3 => ∃ v, f = .ret v ∧ RR (.ok (.ret v)) s3) fun W5 fl h5 tk5 le5 R5 ifl => ?_) (fun f s3 h => ?_) fun _ _ e => e.elim
        · cases ifl with
          | @ret _ v iv =>
            obtain ⟨st5, m5, cs5, e5, X5⟩ := back le5 R5 (nl.trans (hlen _ hi)) ns
            refine ⟨v, rfl, hRR _ _ (kQ ⟨W5.fr, W0.ms⟩ _ h5 tk5 ⟨fun p q => (le4.trans le5).fr p (le.fr p q), fun _ _ q => q⟩ ⟨m5, _, X5.less (nl.trans (hlen _ hi)) ns⟩ (.ret (nr.is (fun j hj => ?_) _ iv)))⟩
            rw [e5]
            exact List.getElem?_append_left (by rw [nl, hlen _ hi] at hj; exact hj)
        · obtain ⟨v, rfl, h⟩ := h
          exact h
  · obtain rfl : i = t.len := Nat.le_antisymm hi2 (Nat.not_lt.mp hlt)
    refine G.K.done _ _ _ st fun h1 tk1 k1 => wpAny_execs_nil (hRR _ _ ?_)
    rcases R.fin with ⟨rfl, rfl, rfl⟩ | ⟨e, _⟩
    · exact kQ ⟨fr, W0.ms⟩ .next h1 tk1 le ⟨m, _, X1.apart k1 hL dj⟩ .next
    · exact absurd hi (Nat.not_le.mpr e)
/-! for over a frozen list -/
theorem Its.some {t : Its} {i : Nat} (h : i < t.len) : ∃ q, t.at? i = some q := by
  cases t with
  | li l => exact ⟨l[i], List.getElem?_eq_getElem h⟩
  | sq k f => exact ⟨f i, Its.at_sq h⟩
noncomputable def itsP : PV → Option Its
  | .list l => some (.li l)
  | .seq k f => some (.sq k f)
  | _ => none
theorem itsP_at {F : Addr → Obj → Prop} {ms : List Addr} {t : Its} {v : Value} (e : itsP p = some t) (i : Is w F ms p v) : ∃ a n vs, v = .ref a ∧ F a (PySem.W.listOf (List.toArray vs) n) ∧ ItsAre w F ms t vs := by
  cases p <;> first
    | (cases e; done)
    | (obtain ⟨a, n, vs, rfl, h1, l⟩ := i.list_inv
       cases e
       exact ⟨a, n, vs, rfl, h1, .li l⟩)
    | (obtain ⟨a, n, vs, rfl, h1, e1, l⟩ := i.seq_inv
       cases e
       exact ⟨a, n, vs, rfl, h1, .sq e1 l⟩)
theorem ItsAre.at' {F : Addr → Obj → Prop} {ms : List Addr} {t : Its} {vs : List Value} (h : ItsAre w F ms t vs) {i : Nat} {v : Value} (hv : vs[i]? = some v) : ∃ q, t.at? i = some q ∧ Is w F ms q v := by
  obtain ⟨q, hq⟩ := Its.some (t := t) (i := i) (h.1 ▸ (List.getElem?_eq_some_iff.mp hv).1)
  obtain ⟨u, hu, iu⟩ := h.2 i q hq
  rw [hv] at hu
  cases hu
  exact ⟨q, hq, iu⟩
/-- the iterator is new -/
theorem push_more {W1 : Wd} {st1 : AS} {o : Obj} (R : RepX c W1 st1 h m cs) (ho : o.isFreed = false) : RepX c ⟨W1.fr, W1.ms ++ [h.objs.size]⟩ { st1 with cells := st1.cells ++ raws [(h.objs.size, o)] } (h.push o) m (cs ++ [(h.objs.size, o)]) :=
  RepX.more (os := [(h.objs.size, o)]) (R.same (R.fr.push o) fun p hp => ⟨Heap.get?_push_of_some _ (R.news p hp).1, (R.news p hp).2⟩)
    (fun p hp => by rw [List.mem_singleton.mp hp]; exact ⟨Heap.get?_push_size _ ho, Nat.ne_of_gt R.fr.ns.lt, next_is_new R.fr⟩) (List.nodup_cons.mpr ⟨List.not_mem_nil, .nil⟩) fun a ha p hp => by rw [List.mem_singleton.mp ha]; exact Nat.ne_of_lt (Heap.lt_size (R.news p hp).1)
theorem Ex1_for {nm : Str} {xp pos : Pos} {iter : Expr} {body : List Stmt} {t : Its} {S : Nat → AS} {stop : Nat} {f : AF} {st' : AS} (hi : Ev c iter st p st1) (ht : itsP p = some t) (hx : ∀ i q os, St c nm q { S i with cells := (S i).cells ++ os } { S i with loc := setL nm q (S i).loc, cells := (S i).cells ++ os }) (hs : ∀ y, foldedSetIterable iter c.env y = pure y)
    (hS : ∀ W h m cs, RepX c W st1 h m cs → RepX c W (S 0) h m cs) (R : ForR c (fun q s => { s with loc := setL nm q s.loc }) body 1 t (fun _ q => q) S stop f st') : Ex1 c (.For (.Name nm xp) iter body [] pos) st f st' := by
  intro W g tk R0 Q kQ
  refine wpAny_For (hi W g tk R0 _ fun W1 v h tk1 l1 ⟨m, cs, R1⟩ iv => ?_) hs
  obtain ⟨l, n, vs, rfl, hF, hv⟩ := itsP_at ht iv
  have hl : h.IsList l vs.toArray := isL (R1.at hF)
  have hne : l ≠ h.objs.size := Nat.ne_of_lt (Heap.lt_size (R1.at hF))
  have X := hS W1 h m cs R1
  have hsz : vs.toArray.size = t.len := by rw [List.size_toArray]; exact hv.1
  refine wpAny_pyIter_list hl (gfor (W0 := W1) (os0 := [(h.objs.size, _)]) (wr := [h.objs.size]) (fp := [h.objs.size, l]) ⟨hsz ▸ KTurns.ofWalks (Walks.list (by exact c.hand) h.objs.size l hne vs.toArray) fun i v s Q E st q => letGo_listiter st.1 q, fun i h st => ?_, fun b hb => ?_, fun i v W2 os h2 tk2 hlt hle hP l2 hos R2 => ?_⟩ R
    (by rw [X.len, ← X.ms, List.length_map]) rfl (push_more X rfl) ⟨⟨_, Heap.get?_push_size _ rfl, rfl, rfl⟩, hl.at fun o e => Heap.get?_push_of_some _ e⟩ (kQ.up l1) fun _ _ h => h)
  · obtain ⟨it, hit, hic, _⟩ := st.1
    exact ⟨[(_, it)], rfl, fun p hp => by rw [List.mem_singleton.mp hp]; exact hit⟩
  · rcases List.mem_cons.mp hb with rfl | hb
    · exact .inl (.head _)
    · rw [List.mem_singleton.mp hb]; exact .inr ⟨_, hF⟩
  · have hP : vs[i]? = some v := by rw [← List.getElem?_toArray]; exact hP
    obtain ⟨q, hq, iq⟩ := hv.at' hP
    refine ⟨q, hq, fun Q kQ => assign_Name (hx i q os W2 h2 tk2 v R2 (Is.up l2 iq) _ fun h' tk' R' => kQ W2 () h' tk' .rfl R' trivial)⟩
theorem bootEnum : bootBuiltins "enumerate" = some (.type "enumerate") := by kernel_rfl
noncomputable def tgt2 (a b : Str) : PV → AS → AS
  | .tup [x, y], s => { s with loc := setL b y (setL a x s.loc) }
  | _, s => s
theorem Ex1_enum {elts : List Expr} {ep cp pos tp : Pos} {k : Nat} {e : Expr} {body : List Stmt} {t : Its} {S : Nat → AS} {stop : Nat} {f : AF} {st' : AS} {tgt : PV → AS → AS} (hg : nsIn (KK w) mainGlobals "enumerate" = some none) (hge : isGlobal c.cs "enumerate" = true) (hse : notStar e = true) (hi : Ev c e st p st1) (ht : itsP p = some t)
    (hel : elts.all notStar = true) (he2 : elts.length = 2) (hA : ∀ i q os, As c elts [.int (i : Nat), q] { S i with cells := (S i).cells ++ os } (tgt (.tup [.int i, q]) { S i with cells := (S i).cells ++ os }))
    (hS : ∀ W h m cs, RepX c W st1 h m cs → RepX c W (S 0) h m cs) (R : ForR c tgt body 2 t (fun i q => .tup [.int i, q]) S stop f st') :
    Ex1 c (.For (.Tuple elts k tp) (.Call (.Name "enumerate" ep) [e] [] cp) body [] pos) st f st' := by
  rintro W g tk ⟨m0, cs0, X0⟩ Q kQ
  refine wpAny_For (Call_ (builtin_wp X0.fr hg bootEnum (by decide) hge (by decide) (callWith_type1 (args_cons (hi W g tk ⟨m0, cs0, X0⟩ _ fun W1 v h tk1 l1 ⟨m, cs, R1⟩ iv => args_nil ?_) (starEach_cons hse)) (starEach_cons hse) rfl)) (by rfl)) (fun _ => rfl)
  obtain ⟨l, n, vs, rfl, hF, hv⟩ := itsP_at ht iv
  have hl' : h.IsList l vs.toArray := isL (R1.at hF)
  have hlt := Heap.lt_size (R1.at hF)
  have X := hS W1 h m cs R1
  have hsz : vs.toArray.size = t.len := by rw [List.size_toArray]; exact hv.1
  refine call_enumerate_list hl' fun h' hE hI hsz' hk => wpAny_pyIter_enum hE ?_
  have hE0 := hE
  obtain ⟨oi, hoi, hic, hid⟩ := id hI
  have fresh : ∀ a, h.objs.size ≤ a → c.H.get? a = none ∧ a ≠ c.L := fun a ha => by
    refine ⟨?_, fun e => absurd R1.fr.ns.lt (Nat.not_lt.mpr (e ▸ ha))⟩
    cases q : c.H.get? a with
    | none => rfl
    | some o => exact absurd (Heap.lt_size (R1.fr.keep _ _ q)) (Nat.not_lt.mpr ha)
  have X' : RepX c W1 (S 0) h' m cs := X.same (X.fr.keeps hk) fun p hp => ⟨hk _ _ (X.news p hp).1, (X.news p hp).2⟩
  have X2 := X'.more (os := [(h.objs.size + 1, _), (h.objs.size, oi)]) (all_cons ⟨hE, (fresh _ (Nat.le_succ _)).2, (fresh _ (Nat.le_succ _)).1⟩ (all_cons ⟨hoi, (fresh _ (Nat.le_refl _)).2, (fresh _ (Nat.le_refl _)).1⟩ all_nil))
    (List.nodup_cons.mpr ⟨fun q => absurd (List.mem_singleton.mp q) (Nat.succ_ne_self _), List.nodup_cons.mpr ⟨List.not_mem_nil, .nil⟩⟩)
    (all_cons (fun p hp => Nat.ne_of_lt (Nat.lt_succ_of_lt (Heap.lt_size (R1.news p hp).1))) (all_cons (fun p hp => Nat.ne_of_lt (Heap.lt_size (R1.news p hp).1)) all_nil))
  refine gfor (W0 := W1) (os0 := [(h.objs.size + 1, _), (h.objs.size, oi)]) (wr := [h.objs.size + 1, h.objs.size]) (fp := [h.objs.size + 1, h.objs.size, l]) ⟨hsz ▸ KTurns.ofWalksU (WalksT.enumerate (by exact c.hand) (h.objs.size + 1) h.objs.size l (Nat.succ_ne_self _) (Nat.ne_of_lt (Nat.lt_succ_of_lt hlt)) (Nat.ne_of_lt hlt) vs.toArray).toU, fun i h st => ?_, fun b hb => ?_, fun i v W2 os h2 tk2 hlt hle hP l2 hos R2 => ?_⟩ R
    (by rw [X.len, ← X.ms, List.length_map]) rfl X2 ⟨⟨.none, hE0⟩, hI, hl'.at fun o e => hk l o e⟩ (kQ.up l1) fun _ _ h => h
  · obtain ⟨⟨old, he⟩, ⟨oi, hoi, hic, _⟩, _⟩ := st
    exact ⟨[(_, _), (_, oi)], rfl, all_cons he (all_cons hoi all_nil)⟩
  · rcases List.mem_cons.mp hb with rfl | hb
    · exact .inl (.head _)
    · rcases List.mem_cons.mp hb with rfl | hb
      · exact .inl (.tail _ (.head _))
      · rw [List.mem_singleton.mp hb]; exact .inr ⟨_, hF⟩
  · obtain ⟨T, vals, rfl, ⟨t', x, hx, rfl⟩, hT⟩ := hP
    have hP : vs[i]? = some x := by rw [← List.getElem?_toArray]; exact hx
    obtain ⟨q, hq, iq⟩ := hv.at' hP
    obtain ⟨m2, cs2, R2⟩ := R2
    obtain ⟨n1, n2⟩ := assignEach_len (env := c.env) hel
    refine ⟨q, hq, fun Q kQ => unpackN_ R2.fr R2.news hT (by exact c.hand) (by rw [n1, he2]; rfl) n2 fun h3 F3 N3 => ?_⟩
    exact hA i q os W2 h3 _ _ ⟨m2, cs2, R2.same F3 N3⟩ (.cons .int (.cons (Is.up l2 iq) .nil)) Q kQ
end
end

end
noncomputable section
noncomputable section
noncomputable def stAt (K : Frag) (f : Addr) (i : Nat) : Stmt := match (bodyOf K f)[i]? with | some s => s | none => .Return none default
noncomputable def whT (s : Stmt) : Expr := match s with | .While t _ _ _ => t | _ => .Constant .none 0 default
noncomputable def whB (s : Stmt) : List Stmt := match s with | .While _ b _ _ => b | .For _ _ b _ _ => b | _ => []
noncomputable def whlC (s : Stmt) : Option {y : Expr × List Stmt // ∃ pos, s = .While y.1 y.2 [] pos} := match s with | .While t b [] pos => some ⟨(t, b), pos, rfl⟩ | _ => none
noncomputable def setLit : Expr → Bool
  | .Set .. => true
  | _ => false
/-- for x in e -/
noncomputable def IsFor (s : Stmt) (x : Str) (it : Expr) (b : List Stmt) : Prop := setLit it = false ∧ ∃ xp pos, s = .For (.Name x xp) it b [] pos
noncomputable def IsEn (s : Stmt) (a b : Str) (e : Expr) (body : List Stmt) : Prop := notStar e = true ∧ ∃ ap bp k tp ep cp pos, s = .For (.Tuple [.Name a ap, .Name b bp] k tp) (.Call (.Name "enumerate" ep) [e] [] cp) body [] pos
noncomputable def forC (s : Stmt) : Option {y : Str × Expr × List Stmt // IsFor s y.1 y.2.1 y.2.2} := match s with
  | .For (.Name x xp) it b [] pos => match h : setLit it with
    | false => some ⟨(x, it, b), h, xp, pos, rfl⟩
    | true => none
  | _ => none
noncomputable def forIt (s : Stmt) : Expr := match forC s with | some y => y.1.2.1 | none => .Constant .none 0 default
noncomputable def forX (s : Stmt) : Option Str := (forC s).map (·.1.1)
noncomputable def enumC (s : Stmt) : Option {y : Str × Str × Expr × List Stmt // IsEn s y.1 y.2.1 y.2.2.1 y.2.2.2} := match s with
  | .For (.Tuple [.Name a ap, .Name b bp] k tp) (.Call (.Name f ep) [e] [] cp) body [] pos => match hn : notStar e, hf : strEq f "enumerate" with
    | true, true => some ⟨(a, b, e, body), hn, ap, bp, k, tp, ep, cp, pos, by rw [strEq_iff.mp hf]⟩
    | _, _ => none
  | _ => none
noncomputable def enumIt (s : Stmt) : Expr := match enumC s with | some y => y.1.2.2.1 | none => .Constant .none 0 default
noncomputable def enumX (s : Stmt) : Option (Str × Str) := (enumC s).map fun y => (y.1.1, y.1.2.1)
theorem for_of {s : Stmt} {nm : Str} (hs : forX s = some nm) : IsFor s nm (forIt s) (whB s) := by
  revert hs
  unfold forX forIt
  cases forC s with
  | none => exact fun e => nomatch e
  | some y =>
    obtain ⟨y, hl, xp, pos, h⟩ := y
    intro hs
    cases hs
    exact ⟨hl, xp, pos, h.trans (congrArg (fun b => Stmt.For _ _ b [] pos) (congrArg whB h).symm)⟩
theorem enum_of {s : Stmt} {n1 n2 : Str} (hs : enumX s = some (n1, n2)) : IsEn s n1 n2 (enumIt s) (whB s) := by
  revert hs
  unfold enumX enumIt
  cases enumC s with
  | none => exact fun e => nomatch e
  | some y =>
    obtain ⟨y, hn, ap, bp, k, tp, ep, cp, pos, h⟩ := y
    intro hs
    cases hs
    exact ⟨hn, ap, bp, k, tp, ep, cp, pos, h.trans (congrArg (fun b => Stmt.For _ _ b [] pos) (congrArg whB h).symm)⟩
section
variable {w : World} {x : Cx w} {s : Stmt} {t : Expr} {b : List Stmt} {st st0 st1 st2 st3 st' : AS} {f : AF} {p : PV} {o : List Ora} {ps : List Prop}
theorem Ex1G_whl (hs : (whlC s).isSome = true) (h : WhlG x (whT s) (whB s) st f st') : Ex1G x s st f st' := by
  cases e : whlC s with
  | none => rw [e] at hs; cases hs
  | some y =>
    obtain ⟨⟨t, b⟩, pos, rfl⟩ := y
    exact fun c hc => Ex1_while (h c hc)
theorem fold_ok {e : Expr} {env : Env} (h : setLit e = false) (y : Value) : foldedSetIterable e env y = pure y := by
  cases e <;> first | rfl | cases h
theorem Ex1G_for {t : Its} {nm : Str} {S : Nat → AS} {stop : Nat} (hs : forX s = some nm) (hi : EvG x (forIt s) st p st1) (ht : itsP p = some t) (hx : (x.fn && isLocal x.sc nm) = true) (hS : ∀ c : Act w, ∀ W h m cs, RepX c W st1 h m cs → RepX c W (S 0) h m cs)
    (R : ∀ c, x.At c → ForR c (fun q s => { s with loc := setL nm q s.loc }) (whB s) 1 t (fun _ q => q) S stop f st') : Ex1G x s st f st' := by
  rw [Bool.and_eq_true] at hx
  obtain ⟨hl, xp, pos, e⟩ := for_of hs
  rw [e]
  exact fun c hc => Ex1_for (hi c hc) ht (fun i q os => St_local (hc.fn hx.1) (hc.sc ▸ hx.2)) (fold_ok hl) (hS c) (R c hc)
theorem Ex1G_enum {t : Its} {n1 n2 : Str} {S : Nat → AS} {stop : Nat} (hs : enumX s = some (n1, n2)) (hi : EvG x (enumIt s) st p st1) (ht : itsP p = some t) (hg : nsIn (KK w) mainGlobals "enumerate" = some none) (hx : (x.fn && (isGlobal x.sc "enumerate" && (isLocal x.sc n1 && isLocal x.sc n2))) = true)
    (hS : ∀ c : Act w, ∀ W h m cs, RepX c W st1 h m cs → RepX c W (S 0) h m cs) (R : ∀ c, x.At c → ForR c (tgt2 n1 n2) (whB s) 2 t (fun i q => .tup [.int i, q]) S stop f st') : Ex1G x s st f st' := by
  rw [Bool.and_eq_true, Bool.and_eq_true, Bool.and_eq_true] at hx
  obtain ⟨h1, h2, h3, h4⟩ := hx
  obtain ⟨hn, ap, bp, k, tp, ep, cp, pos, e⟩ := enum_of hs
  rw [e]
  exact fun c hc => Ex1_enum hg (hc.sc ▸ h2) hn (hi c hc) ht rfl rfl (fun i q os => As_name (St_local (hc.fn h1) (hc.sc ▸ h3)) (As_name (St_local (hc.fn h1) (hc.sc ▸ h4)) As_nil)) (hS c) (R c hc)
theorem runB_exs (h : runB x b st o = some (f, st', ps)) (hp : AllP ps) : ExsG x b st f st' := Res.sound h hp
theorem runT_ts {d : Bool} (h : runT x t st o = some (d, st', ps)) (hp : AllP ps) : TsG x t st d st' := Res.sound h hp
theorem runE_ev {e : Expr} (h : runE x e st o = some (p, st', ps)) (hp : AllP ps) : EvG x e st p st' := Res.sound h hp
theorem WhlG_no (h : TsG x t st false st1) : WhlG x t b st .next st1 := fun c hc => Whl_no (h c hc)
theorem WhlG_ret (h : TsG x t st true st1) (h2 : ExsG x b st1 (.ret p) st2) : WhlG x t b st (.ret p) st2 := fun c hc => Whl_ret (h c hc) (h2 c hc)
theorem WhlG_next (h : TsG x t st true st1) (h2 : ExsG x b st1 .next st2) (h3 : WhlG x t b st2 f st3) : WhlG x t b st f st3 := fun c hc => Whl_next (h c hc) (h2 c hc) (h3 c hc)
theorem Ex1G.from (h : Ex1G x s st f st') (k : ∀ c : Act w, ∀ W h, Rep c W st0 h → Rep c W st h) : Ex1G x s st0 f st' := fun c hc W g tk R Q kQ => h c hc W g tk (k c W g R) Q kQ
theorem Rep.cell {c : Act w} {W : Wd} {st : AS} {h : Heap} (R : Rep c W st h) {i : Nat} {mo mo' : MO} (e : st.cells[i]? = some mo) (k : ∀ F ms o, IsM w F ms mo o → IsM w F ms mo' o) : Rep c W { st with cells := st.cells.set i mo' } h := by
  obtain ⟨m, cs, R⟩ := R
  obtain ⟨a, o, e1, im⟩ := R.cells i mo e
  exact ⟨m, _, R.setCell (o' := o) e1 R.fr (by rw [show cs.set i (a, o) = cs from by
    obtain ⟨h1, h2⟩ := List.getElem?_eq_some_iff.mp e1
    rw [← h2]; exact List.set_getElem_self h1]; exact R.news) (k _ _ _ im)⟩
theorem nil_seq {f : Nat → PV} : ∀ F ms o, IsM w F ms (.list []) o → IsM w F ms (.seq 0 f) o := fun F ms o i => by
  obtain ⟨vs, n, rfl, l⟩ := i.list_inv
  rw [l.nil_inv]
  exact .seq (vs := []) rfl fun j v q => (nil_get q).elim
end
end

end
noncomputable section
noncomputable section
/-- a comprehension's scope within another -/
noncomputable def relS (sc sc0 : Scope) : Scope := { sc with names := sc.names.map fun (n, k) => if (k == .free && sc0.kind == .function && sc0.names.lookup n == some .cell) then (n, .cell) else (n, k) }
theorem relS_free {sc0 : Scope} {y : Str} {names : List (Str × NameKind)} (h : names.lookup y = some .free) : (names.map fun (n, k) => if (k == NameKind.free && sc0.kind == .function && sc0.names.lookup n == some .cell) then (n, NameKind.cell) else (n, k)).lookup y ≠ some .local := by
  induction names with
  | nil => cases h
  | cons e r ih =>
    obtain ⟨n, k⟩ := e
    rw [List.lookup_cons] at h
    rw [List.map_cons]
    cases hy : y == n with
    | true =>
      rw [hy] at h
      cases h
      dsimp only
      split
      · rw [List.lookup_cons, hy]; exact fun e => nomatch e
      · rw [List.lookup_cons, hy]; exact fun e => nomatch e
    | false =>
      rw [hy] at h
      dsimp only
      split
      · rw [List.lookup_cons, hy]; exact ih h
      · rw [List.lookup_cons, hy]; exact ih h
/-- what a comprehension captures -/
theorem closure_ex {sc : Scope} {env : Env} (h : ∀ e ∈ sc.names, (e.2 == .free) = true → ∃ a, env.cells.lookup e.1 = some a) : ∃ cl, closureFor sc env = pure cl ∧ (∀ y a, cl.lookup y = some a → env.cells.lookup y = some a) ∧ ∀ e ∈ sc.names, (e.2 == .free) = true → (cl.lookup e.1).isSome = true := by
  have key : ∀ (names : List (Str × NameKind)) (cs : List (Str × Addr)), (∀ e ∈ names, (e.2 == .free) = true → ∃ a, env.cells.lookup e.1 = some a) → (∀ y a, cs.lookup y = some a → env.cells.lookup y = some a) →
      ∃ cl, (forIn names cs fun e r => if (e.2 == NameKind.free) = true then do let a ← cellOf env e.1; pure (ForInStep.yield ((e.1, a) :: r)) else pure (ForInStep.yield r) : Sem (List (Str × Addr))) = pure cl ∧ (∀ y a, cl.lookup y = some a → env.cells.lookup y = some a) ∧
        (∀ y, (cs.lookup y).isSome = true → (cl.lookup y).isSome = true) ∧ ∀ e ∈ names, (e.2 == .free) = true → (cl.lookup e.1).isSome = true := by
    intro names
    induction names with
    | nil => exact fun cs _ hc => ⟨cs, rfl, hc, fun _ h => h, fun e he => nomatch he⟩
    | cons e r ih =>
      intro cs hn hc
      rw [List.forIn_cons]
      cases he : e.2 == NameKind.free with
      | false =>
        obtain ⟨cl, h1, h2, h3, h4⟩ := ih cs (fun x hx => hn x (.tail _ hx)) hc
        exact ⟨cl, h1, h2, h3, all_cons (P := fun e : Str × NameKind => (e.2 == .free) = true → (cl.lookup e.1).isSome = true) (fun q => by rw [he] at q; cases q) h4⟩
      | true =>
        obtain ⟨a, ha⟩ := hn e (.head _) he
        have hl : ∀ y, ((e.1, a) :: cs).lookup y = cond (y == e.1) (some a) (cs.lookup y) := fun y => by
          rw [List.lookup_cons]
          cases y == e.1 <;> rfl
        obtain ⟨cl, h1, h2, h3, h4⟩ := ih ((e.1, a) :: cs) (fun x hx => hn x (.tail _ hx)) fun y b hb => by
          rw [hl] at hb
          cases hy : y == e.1 with
          | true => rw [hy] at hb; cases hb; rw [eq_of_beq hy]; exact ha
          | false => rw [hy] at hb; exact hc y b hb
        refine ⟨cl, ?_, h2, fun y hy => h3 y ?_, all_cons (P := fun e : Str × NameKind => (e.2 == .free) = true → (cl.lookup e.1).isSome = true) (fun _ => h3 _ (by rw [hl, beq_self_eq_true]; rfl)) h4⟩
        · have hco : cellOf env e.1 = pure a := by unfold cellOf; rw [ha]
          rw [if_pos rfl, hco]
          exact h1
        · rw [hl]
          cases y == e.1 with
          | true => rfl
          | false => exact hy
  obtain ⟨cl, h1, h2, _, h4⟩ := key sc.names [] h fun y a e => nomatch e
  refine ⟨cl, ?_, h2, h4⟩
  unfold closureFor
  exact (congrArg (· >>= fun r => pure r) h1)
/-- the names that a comprehension's block knows -/
noncomputable def knows (sc : Scope) (l : List (Str × PV)) (y : Str) : Bool := match lk y l with
  | some (.var _) => isKind sc y .free
  | some (.nsv _) => false
  | some _ => true
  | none => false
noncomputable def compLoc (nm : Str) (k : Nat) (sc : Scope) (l : List (Str × PV)) : List (Str × PV) := (nm, .nsv k) :: l.filter fun e => knows sc l e.1
/-- the block's own name is none of the frame's -/
noncomputable def nmOk (nm : Str) (l : List (Str × PV)) : Bool := match lk nm l with
  | some (.var _) => true
  | some (.nsv _) => true
  | some _ => false
  | none => true
noncomputable def freeOk (sc : Scope) (l : List (Str × PV)) : Bool := sc.names.all fun e => !(e.2 == .free) || (match lk e.1 l with | some (.var _) => true | _ => false)
theorem lk_filter {α : Type} {f : Str → Bool} {y : Str} {l : List (Str × α)} : lk y (l.filter fun e => f e.1) = cond (f y) (lk y l) none := by
  induction l with
  | nil => cases f y <;> rfl
  | cons e l ih =>
    rw [List.filter_cons]
    show lk y (if f e.1 = true then e :: _ else _) = cond (f y) (cond (strEq y e.1) (some e.2) (lk y l)) none
    cases hf : f e.1 with
    | true =>
      show cond (strEq y e.1) (some e.2) (lk y (l.filter fun e => f e.1)) = _
      cases hs : strEq y e.1 with
      | true => rw [strEq_iff.mp hs, hf]; rfl
      | false => exact ih
    | false =>
      show lk y (l.filter fun e => f e.1) = _
      cases hs : strEq y e.1 with
      | true => rw [ih, strEq_iff.mp hs, hf]; rfl
      | false => exact ih
section
variable {w : World} {c : Act w} {sc : Scope} {cl : List (Str × Addr)} {C I D : Addr} {l : List (Str × PV)} {nm : Str}
noncomputable def Act.comp (c : Act w) (sc : Scope) (cl : List (Str × Addr)) (C : Addr) (hk : sc.kind = .function) : Act w := { c with env := compEnvC sc cl C c.env, kind := hk, glob := c.glob, blt := c.blt }
structure Capt (c : Act w) (sc : Scope) (cl : List (Str × Addr)) : Prop where
  to : ∀ y a, cl.lookup y = some a → c.env.cells.lookup y = some a
  all : ∀ e ∈ sc.names, (e.2 == .free) = true → (cl.lookup e.1).isSome = true
theorem Capt.at (K : Capt c sc cl) {y : Str} {a : Addr} (hy : isKind sc y .free = true) (e : c.env.cells.lookup y = some a) : cl.lookup y = some a := by
  have hm : (y, NameKind.free) ∈ sc.names := by
    have := isKind_of hy
    revert this
    generalize sc.names = names
    intro h
    induction names with
    | nil => cases h
    | cons x r ih =>
      rw [List.lookup_cons] at h
      cases hx : y == x.1 with
      | true =>
        rw [hx] at h
        have h2 : x.2 = .free := Option.some.inj h
        rw [eq_of_beq hx, ← h2]; exact .head _
      | false => rw [hx] at h; exact .tail _ (ih h)
  have := K.all _ hm rfl
  cases q : cl.lookup y with
  | none => rw [q] at this; cases this
  | some b =>
    have z := K.to y b q
    rw [e] at z; exact z ▸ rfl
theorem knows_frame {F : Addr → Obj → Prop} {ms : List Addr} {y : Str} {p : PV} {v : Value} (e : lk y l = some p) (i : Is w F ms p v) : knows sc l y = true := by
  unfold knows
  rw [e]
  cases i <;> rfl
theorem nmOk_no {F : Addr → Obj → Prop} {ms : List Addr} {p : PV} {v : Value} (h : nmOk nm l = true) (e : lk nm l = some p) (i : Is w F ms p v) : False := by
  unfold nmOk at h
  rw [e] at h
  cases i <;> cases h
theorem RepX.toComp {hk : sc.kind = .function} {W : Wd} {cells : List MO} {h : Heap} {m cs} {k : Nat} (R : RepX c W ⟨l, cells⟩ h m cs) (K : Capt c sc cl) (hC : C ≠ c.L) (hm : W.ms[k]? = some C) : RepX (c.comp sc cl C hk) W ⟨compLoc nm k sc l, cells⟩ h m cs := by
    refine ⟨R.fr, R.news, R.ms, R.nodup, R.sep, fun y p e => ?_, R.len, R.cells⟩
    have e : cond (strEq y nm) (some (.nsv k)) (lk y (l.filter fun e => knows sc l e.1)) = some p := e
    cases hs : strEq y nm with
    | true => rw [hs] at e; cases e; exact .nsv hC hm
    | false =>
      rw [hs, lk_filter] at e
      have e : cond (knows sc l y) (lk y l) none = some p := e
      cases hf : knows sc l y with
      | false => rw [hf] at e; cases e
      | true =>
        rw [hf] at e
        have e : lk y l = some p := e
        cases R.loc y p e with
        | frame i e => exact .frame i e
        | var n e1 e2 =>
          have hfr : isKind sc y .free = true := by unfold knows at hf; rw [e] at hf; exact hf
          exact .var (relS_free (isKind_of hfr)) (K.at hfr e1) e2
        | nsv n e1 => unfold knows at hf; rw [e] at hf; cases hf
theorem RepX.ofComp {hk : sc.kind = .function} {W W0 : Wd} {cells : List MO} {h : Heap} {m m0 cs} {k : Nat} (R : RepX (c.comp sc cl C hk) W ⟨compLoc nm k sc l, cells⟩ h m cs) (hn : nmOk nm l = true) (old : ∀ y p, lk y l = some p → Holds c W0 m0 y p) (le : W0.le W) : RepX c W ⟨l, cells⟩ h m cs := by
    refine ⟨R.fr, R.news, R.ms, R.nodup, R.sep, fun y p e => ?_, R.len, R.cells⟩
    cases old y p e with
    | var n e1 e2 => exact .var n e1 (le.ms _ _ e2)
    | nsv n e1 => exact .nsv n (le.ms _ _ e1)
    | frame i e0 =>
      have e1 : lk y (compLoc nm k sc l) = some p := by
        show cond (strEq y nm) _ (lk y (l.filter fun e => knows sc l e.1)) = _
        cases hs : strEq y nm with
        | true =>
          obtain rfl := strEq_iff.mp hs
          exact (nmOk_no hn e i).elim
        | false =>
          show lk y (l.filter fun e => knows sc l e.1) = _
          rw [lk_filter, knows_frame e i]; exact e
      generalize hp : p = p' at e1
      cases R.loc y _ e1 with
      | frame i2 e2 => exact .frame (hp ▸ i2) e2
      | var => subst hp; exact i.var_no.elim
      | nsv => subst hp; exact i.nsv_no.elim
/-- the tests of a comprehension -/
noncomputable def TsL (x : Cx w) (ifs : List Expr) (st : AS) (b : Bool) (st' : AS) : Prop := match ifs with
  | [] => b = true ∧ st' = st
  | [ct] => TsG x ct st b st'
  | _ => False
theorem TsL.at {x : Cx w} {ifs : List Expr} {st st' : AS} {b : Bool} (h : TsL x ifs st b st') (hc : x.At c) : Rn c st (forIn ifs true fun t r => if r = true then do let ok ← isTrue t c.env (eval t c.env); pure (ForInStep.yield ok) else pure (ForInStep.yield r)) st' (fun _ b' => b' = b) := fun W g tk R Q k => by
  match ifs, h with
  | [], h =>
    obtain ⟨rfl, rfl⟩ := h
    exact wpAny_tests_nil (k W _ g tk .rfl R rfl)
  | [ct], h => exact wpAny_tests_one (h c hc W g tk R _ k)
/-- a comprehension's turns -/
structure CompR (x : Cx w) (nm : Str) (ifs : List Expr) (elt : Expr) (t : Its) (K : Nat) (l lc : List (Str × PV)) (Cs : Nat → List MO) (acc : Nat → MO) : Prop where
  len : ∀ i, i ≤ t.len → (Cs i).length = K
  nb : ∀ i, i ≤ t.len → (∀ mo ∈ Cs i, NBM K mo) ∧ NBM K (acc i)
  nbl : ∀ e ∈ l, NB K e.2
  nbq : ∀ i q, t.at? i = some q → NB K q
  step : ∀ i q o, i < t.len → t.at? i = some q →
    (∃ stT y more, TsL x ifs ⟨lc, Cs i ++ [.raw o, .ns nm q, acc i]⟩ true stT ∧ EvG x elt stT y ⟨lc, (Cs (i + 1) ++ [.raw o, .ns nm q, acc i]) ++ more⟩ ∧ NB K y ∧ Snoc w (acc i) y (acc (i + 1))) ∨
    (∃ more, TsL x ifs ⟨lc, Cs i ++ [.raw o, .ns nm q, acc i]⟩ false ⟨lc, (Cs (i + 1) ++ [.raw o, .ns nm q, acc i]) ++ more⟩ ∧ acc (i + 1) = acc i)
structure SrcC (c : Act w) (I : Addr) (fp : List Addr) (P : Nat → Value → Prop) (Stt : Nat → Heap → Prop) (W0 : Wd) (t : Its) : Prop where
  K : Walks c.prog w c.A I fp [I] t.len P Stt
  obj : ∀ i h, Stt i h → ∃ o, h.get? I = some o
  fp : ∀ b ∈ fp, b = I ∨ ∃ o, W0.fact c.F b o
  it : ∀ i v, i < t.len → P i v → ∃ q, t.at? i = some q ∧ Is w (W0.fact c.F) W0.ms q v
noncomputable def CInv (c : Act w) (I C D : Addr) (Stt : Nat → Heap → Prop) (W0 : Wd) (l : List (Str × PV)) (Cs : Nat → List MO) (acc : Nat → MO) (n k : Nat) (s' : Shared) : Prop :=
  ∃ i fr h tk m cs oD mC, s' = c.sh h tk ∧ Stt i h ∧ W0.le ⟨fr, W0.ms⟩ ∧ RepX c ⟨fr, W0.ms⟩ ⟨l, Cs i⟩ h m cs ∧ h.get? D = some oD ∧ IsM w (Wd.fact ⟨fr, W0.ms⟩ c.F) W0.ms (acc i) oD ∧ h.Ns C mC ∧ (∀ p ∈ cs ++ fr, p.1 ∉ [I, C, D]) ∧ i ≤ n ∧ k = n + 1 - i
theorem nb3 {K : Nat} {p : PV} (h : NB K p) : NB (K + 3) p := h.up (Nat.le_add_right _ _)
theorem NBM.up {k k' : Nat} (hk : k ≤ k') {mo : MO} (h : NBM k mo) : NBM k' mo := by
  cases h with
  | list h => exact .list fun p hp => (h p hp).up hk
  | seq h => exact .seq fun j => (h j).up hk
  | dict h => exact .dict fun p hp => (h p hp).up hk
  | raw => exact .raw
  | var h => exact .var (h.up hk)
  | novar => exact .novar
  | ns h => exact .ns (h.up hk)
theorem gcomp {x' : Cx w} {iter elt : Expr} {px pos : Pos} {ifs : List Expr} {hk : sc.kind = .function} {fp : List Addr} {P : Nat → Value → Prop} {Stt : Nat → Heap → Prop} {W0 : Wd} {t : Its} {Cs : Nat → List MO} {acc : Nat → MO} {K : Nat} {h0 : Heap} {tk0 : Nat} {m0 : Str → Option Value} {cs0 : List (Addr × Obj)} {oD0 : Obj} {mC0 : Str → Option Value} {Q : Value → Shared → Prop} {RR : Result → Shared → Prop}
    (G : SrcC c I fp P Stt W0 t) (hx' : x'.At (c.comp sc cl C hk)) (hcap : Capt c sc cl) (hnm : nmOk nm l = true) (hx : (relabel sc c.env).names.lookup nm = some .local) (R : CompR x' nm ifs elt t K l (compLoc nm (K + 1) sc l) Cs acc) (hK : W0.ms.length = K) (hn : t.len ≤ 1000)
    (hI : c.H.get? I = none ∧ I ≠ c.L) (hC : c.H.get? C = none ∧ C ≠ c.L) (hD : c.H.get? D = none ∧ D ≠ c.L) (hIC : I ≠ C) (hID : I ≠ D) (hCD : C ≠ D) (hfC : C ∉ fp) (hfD : D ∉ fp) (off : ∀ p ∈ cs0 ++ W0.fr, p.1 ∉ [I, C, D])
    (R0 : RepX c W0 ⟨l, Cs 0⟩ h0 m0 cs0) (s0 : Stt 0 h0) (zD : h0.get? D = some oD0) (iD : IsM w (W0.fact c.F) W0.ms (acc 0) oD0) (zC : h0.Ns C mC0)
    (kQ : To c W0 ⟨l, Cs t.len ++ [acc t.len]⟩ (Iv c (.cell K)) Q) (hRR : ∀ h tk mC, h.Ns C mC → (∀ h', Heap.SameBut C h h' → Q (.ref D) (c.sh h' tk)) → RR (.ok .next) (c.sh h tk)) :
    codeAny c.M c.A (.compLoop (.ListComp elt [⟨.Name nm px, iter, ifs, 0⟩] sc pos) 0 (.ref I) (.ref D) (compEnvC sc cl C c.env)) RR (c.sh h0 tk0) := by
  have h3 : ∀ a ∈ [I, C, D], c.H.get? a = none ∧ a ≠ c.L := all_cons hI (all_cons hC (all_cons hD all_nil))
  have nd3 : [I, C, D].Nodup := List.nodup_cons.mpr ⟨fun h => (List.mem_cons.mp h).elim hIC fun h => hID (List.mem_singleton.mp h), List.nodup_cons.mpr ⟨fun h => hCD (List.mem_singleton.mp h), List.nodup_cons.mpr ⟨List.not_mem_nil, .nil⟩⟩⟩
  refine codeAny_compLoop_tests (CInv c I C D Stt W0 l Cs acc t.len) ?_ (t.len + 1) ⟨0, W0.fr, h0, tk0, m0, cs0, oD0, mC0, rfl, s0, .rfl, R0, zD, iD, zC, off, Nat.zero_le _, rfl⟩
  rintro k _ ⟨i, fr, h, tk, m, cs, oD, mC, rfl, st, le, R1, zD, iD, zC, off, hi, rfl⟩
  have oI : ∀ p ∈ cs ++ fr, p.1 ∉ [I] := fun p hp hm => off p hp (by rw [List.mem_singleton.mp hm]; exact .head _)
  by_cases hlt : i < t.len
  · refine G.K.item i _ _ _ hlt st fun v h1 tk1 hP st1 k1 => ?_
    obtain ⟨q, hq, iq⟩ := G.it i v hlt hP
    have X1 := R1.apart k1 (fun a ha => h3 a (by rw [List.mem_singleton.mp ha]; exact .head _)) oI
    refine wpAny_assign_Name (wpAny_storeName_local hx (zC.at' fun o e => k1 _ o (fun hm => hIC (List.mem_singleton.mp hm).symm) e) (fun h2 hn2 hs2 => ?_) (by show ((relabel sc c.env).kind == .class || ((relabel sc c.env).kind == .module && _)) = false; rw [show (relabel sc c.env).kind = sc.kind from rfl, hk]; rfl))
    obtain ⟨oC, heC, hoC⟩ := LCg.ns_obj hn2
    have oC' : ∀ p ∈ cs ++ fr, p.1 ∉ [C] := fun p hp hm => off p hp (by rw [List.mem_singleton.mp hm]; exact .tail _ (.head _))
    have hC1 : ∀ a ∈ [C], c.H.get? a = none ∧ a ≠ c.L := fun a ha => h3 a (by rw [List.mem_singleton.mp ha]; exact .tail _ (.head _))
    have kC : ∀ b o, b ∉ [C] → h1.get? b = some o → h2.get? b = some o := fun b o hb e => hs2.extBut b o (fun q => hb (List.mem_singleton.mpr q)) e
    have X2 := X1.apart kC hC1 oC'
    have st2 : Stt (i + 1) h2 := G.K.frame _ _ _ st1 fun b hb o e => hs2.extBut b o (fun q => hfC ((show b = C from q) ▸ hb)) e
    have zD2 : h2.get? D = some oD := hs2.extBut _ _ (fun q => hCD q.symm) (k1 _ _ (fun hm => hID (List.mem_singleton.mp hm).symm) zD)
    obtain ⟨oI', heI⟩ := G.obj _ _ st2
    have news3 : News c.H c.L h2 [(I, oI'), (C, oC), (D, oD)] := all_cons ⟨heI, hI.2, hI.1⟩ (all_cons ⟨heC, hC.2, hC.1⟩ (all_cons ⟨zD2, hD.2, hD.1⟩ all_nil))
    have mup : ∀ (j : Nat) a, W0.ms[j]? = some a → (W0.ms ++ [I, C, D])[j]? = some a := fun j a e => (List.getElem?_append_left (List.getElem?_eq_some_iff.mp e).1).trans e
    have X3 := X2.moreM (os := [(I, oI'), (C, oC), (D, oD)]) (mos := [.raw oI', .ns nm q, acc i]) news3 nd3 (fun a ha p hp e => off p hp (e ▸ ha)) rfl (fun j mo e => by
      match j, e with
      | 0, e => cases e; exact ⟨_, rfl, .raw⟩
      | 1, e => cases e; exact ⟨_, rfl, .ns hoC (if_pos rfl) (iq.mono (fun a o q => le.fact _ _ q) mup)⟩
      | 2, e => cases e; exact ⟨_, rfl, iD.mono (fun _ _ q => q) mup⟩
      | j + 3, e => exact (nil_get (i := j) e).elim)
    have at3 : ∀ j, (W0.ms ++ [I, C, D])[K + j]? = [I, C, D][j]? := fun j => by
      rw [← hK, List.getElem?_append_right (Nat.le_add_right _ _), Nat.add_sub_cancel_left]
    have X4 := X3.toComp (hk := hk) (nm := nm) hcap hC.2 (show (W0.ms ++ [I, C, D])[K + 1]? = some C from at3 1)
    have le3 : W0.le ⟨fr, W0.ms ++ [I, C, D]⟩ := ⟨le.fr, mup⟩
    have b3 : ∀ j mo, (Cs (i + 1) ++ [.raw oI', .ns nm q, acc i])[K + j]? = some mo → [MO.raw oI', .ns nm q, acc i][j]? = some mo := fun j mo e => by
      rw [← R.len (i + 1) hlt, List.getElem?_append_right (Nat.le_add_right _ _), Nat.add_sub_cancel_left] at e; exact e
    have back : ∀ {W6 h6 more}, Wd.le ⟨fr, W0.ms ++ [I, C, D]⟩ W6 → Rep (c.comp sc cl C hk) W6 ⟨compLoc nm (K + 1) sc l, (Cs (i + 1) ++ [.raw oI', .ns nm q, acc i]) ++ more⟩ h6 →
        ∃ rest m6 cs6 oD6 mC6, W6.ms = (W0.ms ++ [I, C, D]) ++ rest ∧ Stt (i + 1) h6 ∧ RepX c ⟨W6.fr, W0.ms⟩ ⟨l, Cs (i + 1)⟩ h6 m6 cs6 ∧ h6.get? D = some oD6 ∧ IsM w (Wd.fact ⟨W6.fr, W0.ms⟩ c.F) W0.ms (acc i) oD6 ∧ h6.Ns C mC6 ∧ ∀ p ∈ cs6 ++ W6.fr, p.1 ∉ [I, C, D] := fun {W6 h6 more} le6 ⟨m6, cs6, R6⟩ => by
      obtain ⟨rest, er⟩ := prefix_of (l := W0.ms ++ [I, C, D]) (l' := W6.ms) le6.ms
      obtain ⟨fr6, ms6⟩ := W6
      obtain rfl : ms6 = (W0.ms ++ [I, C, D]) ++ rest := er
      have hl1 : (Cs (i + 1)).length = W0.ms.length := (R.len (i + 1) hlt).trans hK.symm
      have nbS := R.nb (i + 1) hlt
      have X7 := RepX.less (st := ⟨compLoc nm (K + 1) sc l, Cs (i + 1) ++ [.raw oI', .ns nm q, acc i]⟩) R6 (by show (Cs (i + 1) ++ _).length = _; rw [List.length_append, List.length_append, hl1]; rfl) (by
        have e3 : (Cs (i + 1) ++ [MO.raw oI', .ns nm q, acc i]).length = K + 3 := by rw [List.length_append, R.len (i + 1) hlt]; rfl
        refine ⟨all_cons (P := fun e : Str × PV => NB _ e.2) (.nsv (by rw [e3]; omega)) fun e he => ?_, fun mo hm => ?_⟩
        · show NB (Cs (i + 1) ++ _).length _
          rw [e3]; exact nb3 (R.nbl e ((List.mem_filter.mp he).1))
        · show NBM (Cs (i + 1) ++ _).length _
          rw [e3]
          rcases List.mem_append.mp hm with hm | hm
          · exact (nbS.1 mo hm).up (Nat.le_add_right _ _)
          · exact all_cons (P := NBM (K + 3)) .raw (all_cons (.ns (nb3 (R.nbq i q hq))) (all_cons ((R.nb i hi).2.up (Nat.le_add_right _ _)) all_nil)) mo hm)
      have X8 := X7.ofComp (W0 := ⟨fr, W0.ms⟩) (m0 := m) hnm R1.loc ⟨fun p q => le6.fr p q, mup⟩
      have X9 := RepX.less (st := ⟨l, Cs (i + 1)⟩) X8 hl1 ⟨fun e he => by show NB (Cs (i + 1)).length _; rw [R.len (i + 1) hlt]; exact R.nbl e he, fun mo hm => by show NBM (Cs (i + 1)).length _; rw [R.len (i + 1) hlt]; exact nbS.1 mo hm⟩
      have dj := RepX.disj (st := ⟨l, Cs (i + 1)⟩) X8 hl1
      have cAt : ∀ j mo a, [MO.raw oI', .ns nm q, acc i][j]? = some mo → [I, C, D][j]? = some a → ∃ o, h6.get? a = some o ∧ IsM w (Wd.fact ⟨fr6, W0.ms ++ [I, C, D]⟩ c.F) (W0.ms ++ [I, C, D]) mo o := fun j mo a e1 e2 => by
        obtain ⟨o, _, ho, im⟩ := X8.cellAt (i := K + j) (mo := mo) (a := a) (by show (Cs (i + 1) ++ _)[K + j]? = _; rw [← R.len (i + 1) hlt, List.getElem?_append_right (Nat.le_add_right _ _), Nat.add_sub_cancel_left]; exact e1) ((at3 j).trans e2)
        exact ⟨o, ho, im⟩
      obtain ⟨o1, ho1, i1⟩ := cAt 0 _ _ rfl rfl
      obtain ⟨o2, ho2, i2⟩ := cAt 1 _ _ rfl rfl
      obtain ⟨o3, ho3, i3⟩ := cAt 2 _ _ rfl rfl
      cases i1
      cases i2 with
      | @ns _ _ v2 _ m2 hN hm iv =>
        refine ⟨rest, m6, _, o3, m2, rfl, G.K.frame _ _ _ st2 fun b hb o e => ?_, X9, ho3, (R.nb i hi).2.is (fun j hj => List.getElem?_append_left (hK ▸ hj)) i3, hN.ns ho2, dj⟩
        rcases G.fp b hb with rfl | ⟨o', ho'⟩
        · rw [heI] at e; cases e; exact ho1
        · rw [X2.at (le.fact _ _ ho')] at e
          cases e
          exact X9.at (Wd.le.fact (W := ⟨fr, W0.ms⟩) (W' := ⟨fr6, W0.ms⟩) ⟨fun p q => le6.fr p q, fun _ _ q => q⟩ _ _ (le.fact _ _ ho'))
    have hD1 : ∀ a ∈ [D], c.H.get? a = none ∧ a ≠ c.L := fun a ha => by rw [List.mem_singleton.mp ha]; exact hD
    have leF : ∀ {W6 : Wd}, Wd.le ⟨fr, W0.ms ++ [I, C, D]⟩ W6 → W0.le ⟨W6.fr, W0.ms⟩ := fun l6 => ⟨fun p q => l6.fr p (le.fr p q), fun _ _ q => q⟩
    rcases R.step i q oI' hlt hq with ⟨stT, y, more, hT, hE, ny, hs⟩ | ⟨more, hT, ha⟩
    · refine wpAny_mono (hT.at hx' _ h2 _ ⟨m, _, X4⟩ _ fun W5 b h5 tk5 le5 R5 eb => ?_) (fun _ _ x => x) fun _ _ e => e.elim
      subst eb
      rw [if_pos rfl]
      refine wpAny_mono (hE _ hx' W5 h5 tk5 R5 _ fun W6 yv h6 tk6 le6 R6 iy => ?_) (fun _ _ x => x) fun _ _ e => e.elim
      obtain ⟨rest, m6, cs6, oD6, mC6, e6, st6, X9, zD6, iD6, zC6, dj⟩ := back (le5.trans le6) R6
      have iy' : Is w (Wd.fact ⟨W6.fr, W0.ms⟩ c.F) W0.ms y yv := ny.is (fun j hj => by
        rw [e6, List.append_assoc]; exact List.getElem?_append_left (hK ▸ hj)) _ iy
      obtain ⟨vs, nn, rfl, hl, im3⟩ := hs _ _ _ _ iD6 iy'
      refine append_at (hsz := by rw [List.size_toArray]; exact size_ok hl) zD6 fun h7 hs7 hD7 => ?_
      have kD : ∀ b o, b ∉ [D] → h6.get? b = some o → h7.get? b = some o := fun b o hb e => hs7.extBut b o (fun q => hb (List.mem_singleton.mpr q)) e
      exact ⟨t.len + 1 - (i + 1), by omega, i + 1, W6.fr, h7, tk6, m6, cs6, _, mC6, rfl, G.K.frame _ _ _ st6 fun b hb o e => hs7.extBut b o (fun q => hfD (q ▸ hb)) e, leF (le5.trans le6),
        X9.apart kD hD1 (fun p hp hm => dj p hp (by rw [List.mem_singleton.mp hm]; exact .tail _ (.tail _ (.head _)))), hD7, im3, zC6.at' fun o e => kD _ o (fun hm => hCD (List.mem_singleton.mp hm)) e, dj, hlt, rfl⟩
    · refine wpAny_mono (hT.at hx' _ h2 _ ⟨m, _, X4⟩ _ fun W5 b h5 tk5 le5 R5 eb => ?_) (fun _ _ x => x) fun _ _ e => e.elim
      subst eb
      rw [if_neg (fun e => nomatch e)]
      obtain ⟨rest, m6, cs6, oD6, mC6, e6, st6, X9, zD6, iD6, zC6, dj⟩ := back le5 R5
      exact ⟨t.len + 1 - (i + 1), by omega, i + 1, W5.fr, h5, tk5, m6, cs6, oD6, mC6, rfl, st6, leF le5, X9, zD6, ha ▸ iD6, zC6, dj, hlt, rfl⟩
  · obtain rfl : i = t.len := Nat.le_antisymm hi (Nat.not_lt.mp hlt)
    refine G.K.done _ _ _ st fun h1 tk1 k1 => ?_
    have X1 := R1.apart k1 (fun a ha => h3 a (by rw [List.mem_singleton.mp ha]; exact .head _)) oI
    have zD1 : h1.get? D = some oD := k1 _ _ (fun hm => hID (List.mem_singleton.mp hm).symm) zD
    refine hRR h1 tk1 mC (zC.at' fun o e => k1 _ o (fun hm => hIC (List.mem_singleton.mp hm).symm) e) fun h' hs => ?_
    have X2 := X1.apart (wr := [C]) (h' := h') (fun b o hb e => hs.extBut b o (fun q => hb (List.mem_singleton.mpr q)) e) (fun a ha => h3 a (by rw [List.mem_singleton.mp ha]; exact .tail _ (.head _))) fun p hp hm => off p hp (by rw [List.mem_singleton.mp hm]; exact .tail _ (.head _))
    have zD2 : h'.get? D = some oD := hs.extBut _ _ (fun q => hCD q.symm) zD1
    obtain ⟨X3, _⟩ := X2.snoc X2.fr (I := D) (o := oD) (mo := acc t.len) (all_cons ⟨zD2, hD.2, hD.1⟩ X2.news) (fun p hp e => off p hp (by rw [e]; exact .tail _ (.tail _ (.head _)))) (iD.mono (fun _ _ q => q) msnoc)
    refine kQ ⟨fr, W0.ms ++ [D]⟩ (.ref D) h' tk1 ⟨le.fr, msnoc⟩ ⟨m, _, X3⟩ (.cell ?_)
    rw [← hK, List.getElem?_append_right (Nat.le_refl _), Nat.sub_self]; rfl
theorem gblock {x' : Cx w} {iter elt : Expr} {px pos : Pos} {ifs : List Expr} {hk : sc.kind = .function} {fp : List Addr} {P : Nat → Value → Prop} {Stt : Nat → Heap → Prop} {W0 : Wd} {t : Its} {Cs : Nat → List MO} {acc : Nat → MO} {K : Nat} {h0 : Heap} {tk0 : Nat} {m0 : Str → Option Value} {cs0 : List (Addr × Obj)} {Q : Value → Shared → Prop}
    (G : SrcC c I fp P Stt W0 t) (hx' : ∀ C, x'.At (c.comp sc cl C hk)) (hcap : Capt c sc cl) (hnm : nmOk nm l = true) (hx : sc.names.lookup nm = some .local) (hcell : (sc.names.all fun y => decide (y.2 ≠ .cell)) = true) (R : CompR x' nm ifs elt t K l (compLoc nm (K + 1) sc l) Cs acc) (hK : W0.ms.length = K) (hn : t.len ≤ 1000)
    (hI : c.H.get? I = none ∧ I ≠ c.L) (hIl : I < h0.objs.size) (hfp : ∀ b ∈ fp, b < h0.objs.size) (off : ∀ p ∈ cs0 ++ W0.fr, p.1 ≠ I) (R0 : RepX c W0 ⟨l, Cs 0⟩ h0 m0 cs0) (s0 : Stt 0 h0) (hacc : ∀ F ms o, IsM w F ms (.list []) o → IsM w F ms (acc 0) o)
    (kQ : To c W0 ⟨l, Cs t.len ++ [acc t.len]⟩ (Iv c (.cell K)) Q) :
    wpAny c.M c.A (newList []) (fun acc s₃ => wpAny c.M c.A (newFunctionEnv sc c.env.globals cl [] c.env.qual none .none (some c.env)) (fun cenv s₄ =>
      codeAny c.M c.A (.compStart (.ListComp elt [⟨.Name nm px, iter, ifs, 0⟩] sc pos) 0 (.ref I) acc { cenv with scope := relabel sc c.env }) (compPost c.M c.A never none Q acc cenv.locals) s₄) never s₃) never (c.sh h0 tk0) := by
  refine wpAny_newObj_type (wpAny_newFunctionEnv (fun x hx => of_decide_eq_true (List.all_eq_true.mp hcell x hx)) (by intro y hy; cases hy) (fun h₁ hns₁ hsb₁ => ?_) hk)
  dsimp only at hns₁ hsb₁ ⊢
  generalize hH2 : Heap.push (c.sh h0 tk0).heap { cls := .type "list", dict := none, data := .seq ([] : List Value).toArray } = H2 at hns₁ hsb₁ ⊢
  have eD : (c.sh h0 tk0).heap.objs.size = h0.objs.size := rfl
  have hC : H2.objs.size = h0.objs.size + 1 := by rw [← hH2, Heap.size_push]
  have fresh : ∀ a, h0.objs.size ≤ a → c.H.get? a = none ∧ a ≠ c.L := fun a ha => by
    refine ⟨?_, fun e => absurd R0.fr.ns.lt (Nat.not_lt.mpr (e ▸ ha))⟩
    cases q : c.H.get? a with
    | none => rfl
    | some o => exact absurd (Heap.lt_size (R0.fr.keep _ _ q)) (Nat.not_lt.mpr ha)
  have old : ∀ b o, h0.get? b = some o → h₁.get? b = some o := fun b o e => hsb₁.extBut b o (by rw [hC]; exact Nat.ne_of_lt (Nat.lt_succ_of_lt (Heap.lt_size e))) (Heap.get?_push_of_some _ (hH2 ▸ Heap.get?_push_of_some _ e))
  have zD : h₁.get? h0.objs.size = some (PySem.W.listOf (List.toArray []) 0) := hsb₁.extBut _ _ (by rw [hC]; exact Nat.ne_of_lt (Nat.lt_succ_self _)) (Heap.get?_push_of_some _ (hH2 ▸ Heap.get?_push_size _ rfl))
  have X1 : RepX c W0 ⟨l, Cs 0⟩ h₁ m0 cs0 := R0.same (R0.fr.keeps old) fun p hp => ⟨old _ _ (R0.news p hp).1, (R0.news p hp).2⟩
  have st1 : Stt 0 h₁ := G.K.frame _ _ _ s0 fun b _ o e => old b o e
  have lo : ∀ p ∈ cs0 ++ W0.fr, p.1 < h0.objs.size := fun p hp => Heap.lt_size (R0.news p hp).1
  rw [hC] at hns₁ ⊢
  have loop := gcomp (iter := iter) (px := px) (pos := pos) (D := h0.objs.size) (Q := Q) (RR := compPost c.M c.A never none Q (.ref h0.objs.size) (h0.objs.size + 1)) (tk0 := tk0 + ([] : List (Str × Value)).length) G (hx' (h0.objs.size + 1)) hcap hnm (lookup_relabel_local hx) R hK hn hI (fresh _ (Nat.le_succ _)) (fresh _ (Nat.le_refl _))
    (Nat.ne_of_lt (Nat.lt_succ_of_lt hIl)) (Nat.ne_of_lt hIl) (Nat.succ_ne_self _) (fun h => absurd (hfp _ h) (Nat.not_lt.mpr (Nat.le_succ _))) (fun h => absurd (hfp _ h) (Nat.lt_irrefl _))
    (fun p hp hm => by
      rcases List.mem_cons.mp hm with e | hm
      · exact off p hp e
      · rcases List.mem_cons.mp hm with e | hm
        · exact absurd (lo p hp) (e ▸ Nat.not_lt.mpr (Nat.le_succ _))
        · exact absurd (lo p hp) ((List.mem_singleton.mp hm) ▸ Nat.lt_irrefl _)) X1 st1 zD (hacc _ _ _ (.list .nil)) hns₁ kQ fun h tk mC hm hq => ⟨mC, hm, fun h' hs => hq h' hs⟩
  exact codeAny_compStart_list loop (G.K.self 0 _ _ _ st1 loop)
/-- what may be gone over -/
noncomputable def Src1 (c : Act w) (p : PV) (t : Its) : Prop := ∀ (W1 : Wd) v (h1 : Heap), (∀ a o, W1.fact c.F a o → h1.get? a = some o) → Iv c p W1 v → ∀ tk1 (Q2 : Value → Shared → Prop),
  (∀ o fp P Stt, SrcC c h1.objs.size fp P Stt W1 t → Stt 0 (h1.push o) → (∀ b ∈ fp, b < (h1.push o).objs.size) → Q2 (.ref h1.objs.size) (c.sh (h1.push o) tk1)) → wpAny c.M c.A (pyIter v) Q2 never (c.sh h1 tk1)
theorem fp_lt {h : Heap} {o : Obj} {l : List Addr} (k : ∀ b ∈ l, b < h.objs.size) : ∀ b ∈ h.objs.size :: l, b < (h.push o).objs.size := by
  rw [Heap.size_push]
  exact all_cons (Nat.lt_succ_self _) fun b hb => Nat.lt_succ_of_lt (k b hb)
theorem Src1.list {p : PV} {t : Its} (ht : itsP p = some t) : Src1 c p t := fun W1 v h1 at1 iv tk1 Q2 k => by
  obtain ⟨ax, n, vs, rfl, hF, hv⟩ := itsP_at ht iv
  have hl : h1.IsList ax vs.toArray := isL (at1 _ _ hF)
  have hlt := Heap.lt_size (at1 _ _ hF)
  have hsz : vs.toArray.size = t.len := by rw [List.size_toArray]; exact hv.1
  refine wpAny_pyIter_list hl (k _ [h1.objs.size, ax] _ _ ⟨hsz ▸ Walks.list (by exact c.hand) h1.objs.size ax (Nat.ne_of_lt hlt) vs.toArray, fun i h st => ?_, all_cons (.inl rfl) (all_cons (.inr ⟨_, hF⟩) all_nil), fun i v _ hP => hv.at' (by rw [← List.getElem?_toArray]; exact hP)⟩ ⟨⟨_, Heap.get?_push_size _ rfl, rfl, rfl⟩, hl.push _⟩ (fp_lt (all_cons hlt all_nil)))
  obtain ⟨it, hit, _⟩ := st.1
  exact ⟨it, hit⟩
theorem Src1.tup {q : List PV} : Src1 c (.tup q) (.li q) := fun W1 v h1 at1 iv tk1 Q2 k => by
  obtain ⟨ax, n, vs, rfl, hF, il⟩ := Is.tup_inv iv
  have hl : IsTup h1 ax vs.toArray := isT (at1 _ _ hF)
  have hlt := Heap.lt_size (at1 _ _ hF)
  have hv := ItsAre.li il
  have hsz : vs.toArray.size = q.length := by rw [List.size_toArray]; exact hv.1
  refine wpAny_pyIter_tuple hl (k _ [h1.objs.size, ax] _ _ ⟨hsz ▸ Walks.tuple (by exact c.hand) h1.objs.size ax (Nat.ne_of_lt hlt) vs.toArray, fun i h st => ?_, all_cons (.inl rfl) (all_cons (.inr ⟨_, hF⟩) all_nil), fun i v _ hP => hv.at' (by rw [← List.getElem?_toArray]; exact hP)⟩ ⟨⟨_, Heap.get?_push_size _ rfl, rfl, rfl⟩, (show h1.IsTuple ax vs.toArray from hl).at fun o e => Heap.get?_push_of_some _ e⟩ (fp_lt (all_cons hlt all_nil)))
  obtain ⟨it, hit, _⟩ := st.1
  exact ⟨it, hit⟩
theorem Src1.range {z : Int} {n : Nat} (hz : z.toNat = n) (hn : n ≤ 1000) (h0 : -1000 ≤ z) : Src1 c (rangeP z) (.sq n fun i => .int (i : Nat)) := fun W1 v h1 at1 iv tk1 Q2 k => by
  unfold rangeP at iv
  cases iv with
  | @obj _ a hR =>
    obtain ⟨t, u, v, hr⟩ := hR h1 at1
    have hlt := Heap.lt_size hr
    refine wpAny_pyIter_range hr (small_one (by decide) (by decide) (by omega) (by omega)) (k _ [h1.objs.size] _ _ ⟨LCg.range_walks (by exact c.hand) 0 n, fun i h st => ⟨_, st⟩, all_cons (.inl rfl) all_nil, fun i v hi hP => ?_⟩ (by
      show IsRangeIter _ _ _ _ _
      rw [rangeSize_nat, Int.sub_zero, hz]; simpa using Heap.get?_push_size _ rfl) (fp_lt all_nil))
    obtain ⟨t', rfl⟩ := hP
    refine ⟨_, Its.at_sq hi, ?_⟩
    rw [Int.zero_add]; exact .int
theorem Ev_comp {x' : Cx w} {st : AS} {iter elt : Expr} {px pos : Pos} {ifs : List Expr} {hk : sc.kind = .function} {p : PV} {t : Its} {Cs : Nat → List MO} {acc : Nat → MO} {K : Nat} (hi : Ev c iter st p ⟨l, Cs 0⟩) (hsrc : Src1 c p t) (hs : ∀ y, foldedSetIterable iter c.env y = pure y) (hfree : freeOk sc st.loc = true)
    (hx' : ∀ cl C, x'.At (c.comp sc cl C hk)) (hnm : nmOk nm l = true) (hx : sc.names.lookup nm = some .local) (hcell : (sc.names.all fun y => decide (y.2 ≠ .cell)) = true) (hnames : ∀ y ∈ sc.names, y.2 = .local → sc.names.lookup y.1 = some .local) (R : CompR x' nm ifs elt t K l (compLoc nm (K + 1) sc l) Cs acc) (hn : t.len ≤ 1000)
    (hacc : ∀ F ms o, IsM w F ms (.list []) o → IsM w F ms (acc 0) o) : Ev c (.ListComp elt [⟨.Name nm px, iter, ifs, 0⟩] sc pos) st (.cell K) ⟨l, Cs t.len ++ [acc t.len]⟩ := by
  rintro W g tk ⟨m0, cs0, R0⟩ Q kQ
  obtain ⟨cl, hcl, hto, hall⟩ := closure_ex (sc := sc) (env := c.env) fun e he hf => by
    have := List.all_eq_true.mp hfree e he
    rw [hf] at this
    split at this
    · rename_i i hl
      obtain ⟨a, e1, _⟩ := var_at R0 hl
      exact ⟨a, e1⟩
    · cases this
  rw [eval_ListComp]
  refine wpAny_comprehension_free (use := none) rfl hs hcl hk hnames (hi W g tk ⟨m0, cs0, R0⟩ _ fun W1 v h1 tk1 l1 ⟨m, cs, R1⟩ iv => ?_)
  refine hsrc W1 v h1 (fun a o q => R1.at q) iv tk1 _ fun o fp P Stt G s0 hfp => ?_
  exact gblock G (hx' cl) ⟨hto, hall⟩ hnm hx hcell R (by rw [← R1.ms, List.length_map, ← R1.len]; exact R.len 0 (Nat.zero_le _)) hn ⟨next_is_new R1.fr, Nat.ne_of_gt R1.fr.ns.lt⟩ (by rw [Heap.size_push]; exact Nat.lt_succ_self _) hfp (fun p hp => Nat.ne_of_lt (Heap.lt_size (R1.news p hp).1))
    (R1.same (R1.fr.push o) fun p hp => ⟨Heap.get?_push_of_some _ (R1.news p hp).1, (R1.news p hp).2⟩) s0 hacc (kQ.up l1)
end
/-! the parts of a comprehension -/
noncomputable def IsComp (e : Expr) (nm : Str) (it : Expr) (ifs : List Expr) (elt : Expr) (sc : Scope) : Prop := setLit it = false ∧ ∃ px pos, e = .ListComp elt [⟨.Name nm px, it, ifs, 0⟩] sc pos
noncomputable def compIt (e : Expr) : Expr := match e with | .ListComp _ [⟨_, it, _, _⟩] _ _ => it | _ => .Constant .none 0 default
noncomputable def compIfs (e : Expr) : List Expr := match e with | .ListComp _ [⟨_, _, ifs, _⟩] _ _ => ifs | _ => []
noncomputable def compElt (e : Expr) : Expr := match e with | .ListComp elt _ _ _ => elt | _ => .Constant .none 0 default
noncomputable def compSc (e : Expr) : Scope := match e with | .ListComp _ _ sc _ => sc | _ => default
noncomputable def compC (e : Expr) : Option {nm : Str // IsComp e nm (compIt e) (compIfs e) (compElt e) (compSc e)} := match e with
  | .ListComp elt [⟨.Name nm px, it, ifs, 0⟩] sc pos => match h : setLit it with
    | false => some ⟨nm, h, px, pos, rfl⟩
    | true => none
  | _ => none
noncomputable def compX (e : Expr) : Option Str := (compC e).map (·.1)
theorem comp_of {e : Expr} {nm : Str} (h : compX e = some nm) : IsComp e nm (compIt e) (compIfs e) (compElt e) (compSc e) := by
  unfold compX at h
  cases q : compC e with
  | none => rw [q] at h; cases h
  | some y => rw [q] at h; cases h; exact y.2
/-- what is asked of a comprehension's scope -/
noncomputable def compOk (sc : Scope) (nm : Str) (l : List (Str × PV)) : Bool := decide (sc.kind = .function) && (isLocal sc nm && ((sc.names.all fun y => decide (y.2 ≠ .cell)) && ((sc.names.all fun y => decide (y.2 = .local → sc.names.lookup y.1 = some .local)) && (nmOk nm l && freeOk sc l))))
noncomputable abbrev Cx.comp {w : World} (x : Cx w) (e : Expr) : Cx w := ⟨x.g, x.n, relS (compSc e) x.sc, false, false⟩
theorem EvG_comp {w : World} {x : Cx w} {e : Expr} {nm : Str} {l : List (Str × PV)} {p : PV} {t : Its} {Cs : Nat → List MO} {acc : Nat → MO} {K : Nat} {cells : List MO} (he : compX e = some nm) (hok : compOk (compSc e) nm l = true) (hi : EvG x (compIt e) ⟨l, cells⟩ p ⟨l, Cs 0⟩) (hsrc : ∀ c : Act w, Src1 c p t)
    (R : CompR (x.comp e) nm (compIfs e) (compElt e) t K l (compLoc nm (K + 1) (compSc e) l) Cs acc) (hn : t.len ≤ 1000) (hacc : ∀ F ms o, IsM w F ms (.list []) o → IsM w F ms (acc 0) o) : EvG x e ⟨l, cells⟩ (.cell K) ⟨l, Cs t.len ++ [acc t.len]⟩ := fun c hc => by
  obtain ⟨hl, px, pos, h⟩ := comp_of he
  unfold compOk at hok
  rw [Bool.and_eq_true, Bool.and_eq_true, Bool.and_eq_true, Bool.and_eq_true, Bool.and_eq_true] at hok
  obtain ⟨h1, h2, h3, h4, h5, h6⟩ := hok
  have key := Ev_comp (c := c) (x' := x.comp e) (px := px) (pos := pos) (hk := of_decide_eq_true h1) (hi c hc) (hsrc c) (fold_ok hl) h6 (fun cl C => ⟨hc.gl, hc.n, by rw [show (c.comp (compSc e) cl C _).cs = relS (compSc e) c.cs from rfl, hc.sc], fun e => (nomatch e), fun e => (nomatch e)⟩) h5 (isLocal_of h2) h3 (fun y hy => of_decide_eq_true (List.all_eq_true.mp h4 y hy)) R hn hacc
  rw [← h] at key
  exact key
end

end
noncomputable section
noncomputable section
/-! lists of numbers: slices, sums, sums of lists -/
noncomputable def intsP (k : Nat) (f : Nat → Int) : PV := .seq k fun j => .int (f j)
section
variable {w : World} {c : Act w} {x : Cx w} {st st1 st2 st3 : AS} {p q r : PV}
theorem ints_of {F : Addr → Obj → Prop} {ms : List Addr} {vs : List Value} : ∀ {f : Nat → Int}, (∀ (j : Nat) u, vs[j]? = some u → Is w F ms (.int (f j)) u) → IntsAre vs ((List.range vs.length).map f) := by
  induction vs with
  | nil => exact fun _ => .nil
  | cons v vs ih =>
    intro f h
    obtain ⟨t, rfl⟩ := (h 0 v rfl).int_inv
    have := ih (f := fun j => f (j + 1)) fun j u e => h (j + 1) u e
    rw [List.length_cons, List.range_succ_eq_map, List.map_cons, List.map_map]
    exact .cons _ _ this
/-- a part of a slice -/
noncomputable def Part (c : Act w) (e : Option Expr) (st : AS) (z : Option Int) : Prop := match e, z with
  | none, none => True
  | some e, some z => Ev c e st (.int z) st
  | _, _ => False
theorem Part.wp {e : Option Expr} {z : Option Int} (h : Part c e st z) {W : Wd} {g : Heap} {tk : Nat} (R : Rep c W st g) {Q : Value → Shared → Prop} (k : ∀ W' v h' tk', W.le W' → Rep c W' st h' → IsPart v z → Q v (c.sh h' tk')) : wpAny c.M c.A (evalPart e c.env) Q never (c.sh g tk) := by
  match e, z, h with
  | none, none, _ => exact evalPart_none_step (k W _ g tk .rfl R .none)
  | some e, some z, h => exact evalPart_some_step (h W g tk R _ fun W' v h' tk' l R' i => by
      obtain ⟨t, rfl⟩ := i.int_inv
      exact k W' _ h' tk' l R' (.int z t))
theorem Ev_slice {nm : Str} {vp sp pos : Pos} {lo hi : Option Expr} {a b : Option Int} {k A B : Nat} {f : Nat → PV} (h1 : Ev c (.Name nm vp) st p st) (hl : Part c lo st a) (hh : Part c hi st b) (hp : itsOf st p = some (.sq k f)) (hk : k ≤ 1000) (hA : a.elim 0 (clipAt k) = A) (hB : b.elim k (clipAt k) = B) :
    Ev c (.Subscript (.Name nm vp) (.Slice lo hi none sp) pos) st (.seq (min (B - A) (k - A)) fun j => f (A + j)) st := fun W g tk R Q kQ =>
  Subscript_ (h1 W g tk R _ fun W1 v h1 tk1 l1 R1 i1 => wpAny_Slice (hl.wp R1 fun W2 vl h2 tk2 l2 R2 pl => hh.wp R2 fun W3 vu h3 tk3 l3 ⟨m, cs, R3⟩ pu => evalPart_none_step (by
    obtain ⟨x, n, vs, rfl, hx, hlen, hv⟩ := its_at R3 hp (i1.up (l2.trans l3))
    have hlen : vs.length = k := hlen
    refine slice_list R3.fr R3.news (isL hx) pl pu (fun h' F' N' => ?_) rfl (fun _ => rfl) (by rw [List.size_toArray, hlen]; exact size_ok hk)
    have lt : ∀ p ∈ cs ++ W3.fr, p.1 < h3.objs.size + 1 := fun p hp => Nat.lt_succ_of_lt (Heap.lt_size (R3.news p hp).1)
    obtain ⟨R4, l4⟩ := R3.grow (tl := [(_, _)]) F' N' (all_cons (P := fun p : Addr × Obj => p.1 ∉ W3.ms) (R3.above lt) all_nil)
    refine kQ _ _ h' _ (((l1.trans l2).trans l3).trans l4) ⟨m, cs, R4⟩ (.seq (n := 0) (vs := (vs.drop A).take (B - A)) (.inr ?_) ?_ fun j u e => ?_)
    · rw [slicePick_plain, show vs.toArray.size = k from hlen, hA, hB]
      exact .head _
    · rw [List.length_take, List.length_drop, hlen]
    · have hj := (List.getElem?_eq_some_iff.mp e).1
      rw [List.length_take, List.length_drop, hlen] at hj
      rw [List.getElem?_take_of_lt (by omega), List.getElem?_drop] at e
      obtain ⟨u', e', i'⟩ := hv (A + j) _ (Its.at_sq (by omega))
      rw [e] at e'
      cases e'
      exact Is.up l4 i')))
theorem BCall_sum {k : Nat} {f : Nat → Int} (e : itsOf st p = some (.sq k fun j => .int (f j))) : BCall c (.builtin "sum") [p] st (.int ((List.range k).map f).sum) st := fun W h tk _ ⟨m, cs, R⟩ l Q kQ => by
  obtain ⟨v, rfl, i⟩ := IsL.one_inv l
  obtain ⟨a, n, vs, rfl, ha, hl, hv⟩ := its_at R e i
  have hl : vs.length = k := hl
  have hi : IntsAre vs ((List.range k).map f) := hl ▸ ints_of (F := W.fact c.F) (ms := W.ms) fun j u e => by
    obtain ⟨u', e', i'⟩ := hv j _ (Its.at_sq (hl ▸ (List.getElem?_eq_some_iff.mp e).1))
    rw [e] at e'; cases e'; exact i'
  exact LSm.sum_ints R.fr R.news (by exact c.hand) (isL ha) hi fun h' tk' t' F' N' => kQ W _ h' _ .rfl ⟨m, cs, R.same F' N'⟩ .int
theorem BCall_abs {z : Int} : BCall c (.builtin "abs") [.int z] st (.int (if z < 0 then -z else z)) st := fun W h tk _ R l Q kQ => by
  obtain ⟨v, rfl, i⟩ := IsL.one_inv l
  obtain ⟨t, rfl⟩ := i.int_inv
  exact call_abs_int fun u tk' => kQ W _ h tk' .rfl R .int
/-- one more frozen list -/
theorem frozen {W : Wd} {h h' : Heap} {m : Str → Option Value} {cs : List (Addr × Obj)} {D : Addr} {ws : List Value} {k tk : Nat} {f : Nat → PV} {Q : Value → Shared → Prop} (R : RepX c W st h m cs) (F' : Fr c.H c.L h' m) (N' : News c.H c.L h' ((D, PySem.W.listOf (List.toArray ws) 0) :: (cs ++ W.fr))) (lt : ∀ p ∈ cs ++ W.fr, p.1 < D)
    (hl : ws.length = k) (hi : ∀ (j : Nat) u, ws[j]? = some u → Is w (W.fact c.F) W.ms (f j) u) (kQ : To c W st (Iv c (.seq k f)) Q) : Q (.ref D) (c.sh h' tk) := by
  obtain ⟨R4, l4⟩ := R.grow (tl := [(_, _)]) F' N' (all_cons (P := fun p : Addr × Obj => p.1 ∉ W.ms) (R.above lt) all_nil)
  exact kQ _ _ h' tk l4 ⟨m, cs, R4⟩ (.seq (n := 0) (.inr (.head _)) hl fun j u e => Is.up l4 (hi j u e))
theorem Op_mul {z : Int} {d : Nat} (hp : itsOf st p = some (.li [.int z])) (hd : d ≤ 200) : Opd c st p (.int d) (binaryOp .Mult) (.seq d fun _ => .int z) st := fun W h tk a b ⟨m, cs, R⟩ i j Q kQ => by
  obtain ⟨a, n, vs, rfl, ha, hl, hv⟩ := its_at R hp i
  obtain ⟨t, rfl⟩ := Is.int_inv j
  obtain ⟨v, e0, iv⟩ := hv 0 _ rfl
  have e : vs = [v] := by
    cases vs with
    | nil => cases e0
    | cons u r =>
      cases e0
      cases r with
      | nil => rfl
      | cons y r => cases hl
  subst e
  refine KMa.mul R.fr R.news (isL ha) (by omega) (by omega) (by rw [Int.toNat_natCast]; show 1 * d ≤ 256; omega) rfl fun D h' F' N' lt => ?_
  refine frozen R F' N' lt (by rw [Int.toNat_natCast, List.length_flatten]; simp) (fun j u e => ?_) kQ
  have := List.mem_of_getElem? e
  simp at this
  rw [this.2]; exact iv
theorem Op_add {t1 t2 : Its} {m : Nat} {h : Nat → PV} (hp : itsOf st p = some t1) (hq : itsOf st q = some t2) (hm : t1.len + t2.len = m) (hs : m ≤ 1000) (h1 : ∀ j u, t1.at? j = some u → h j = u) (h2 : ∀ j u, t2.at? j = some u → h (t1.len + j) = u) : Opd c st p q (binaryOp .Add) (.seq m h) st := fun W g tk a b ⟨m, cs, R⟩ i j Q kQ => by
  obtain ⟨a, n, vs, rfl, ha, hl, hv⟩ := its_at R hp i
  obtain ⟨b, n', us, rfl, hb, hl', hv'⟩ := its_at R hq j
  refine add_lists R.fr R.news (isL ha) (isL hb) (fun h' F' N' => ?_) (by rw [hl, hl', hm]; exact size_ok hs)
  refine frozen R F' N' (fun p hp => Heap.lt_size (R.news p hp).1) (by rw [List.length_append, hl, hl', hm]) (fun j u e => ?_) kQ
  by_cases hj : j < vs.length
  · rw [List.getElem?_append_left hj] at e
    obtain ⟨q, e', i'⟩ := ItsAre.at' ⟨hl, hv⟩ e
    rw [h1 j q e']; exact i'
  · have hj := Nat.not_lt.mp hj
    rw [List.getElem?_append_right hj] at e
    obtain ⟨q, e', i'⟩ := ItsAre.at' ⟨hl', hv'⟩ e
    rw [show j = t1.len + (j - vs.length) by rw [← hl]; omega, h2 _ q e']; exact i'
end
end

end
noncomputable section
noncomputable section
/-! loops and comprehensions over the empty tuple -/
section
variable {w : World} {c : Act w} {sc : Scope} {cl : List (Str × Addr)} {C I D : Addr} {l : List (Str × PV)} {p : PV} {st st1 : AS} {cells : List MO} {acc : MO}
theorem compLoop_done {prog : Program} {A : Around} {R : Result → Shared → Prop} {s : Shared} {elt target iter : Expr} {ifs : List Expr} {scope : Scope} {pos : Pos} {it ac : Value} {env : Env}
    (h : wpAny (model prog w) A (pyNext it) (fun r s₁ => r = none ∧ R (.ok .next) s₁) (notedBy (model prog w) A env fun e s' => R (.error e) s') s) :
    codeAny (model prog w) A (.compLoop (.ListComp elt [⟨target, iter, ifs, 0⟩] scope pos) 0 it ac env) R s := by
  refine codeAny_loop rfl (fun _ s' => s' = s) (fun n s' hI => ?_) 0 rfl
  subst hI
  show wpAny _ A ((compTurn (.ListComp elt [⟨target, iter, ifs, 0⟩] scope pos) 0 it ac env).onRaise (fun x => do noteFrame x env; theTreesLotGoes x)) _ _ _
  refine wpAny_noted ?_
  rw [compTurn_list]
  refine wpAny_bind (wpAny_standAt (wpAny_bind (wpAny_mono h (fun r s₁ h₁ => ?_) fun _ _ h' => h')))
  obtain ⟨rfl, h₁⟩ := h₁
  exact wpAny_pure h₁
theorem gblock0 {target iter elt : Expr} {pos : Pos} {ifs : List Expr} (hk : sc.kind = .function) {fp : List Addr} {P : Nat → Value → Prop} {Stt : Nat → Heap → Prop} {W0 : Wd} {K : Nat} {h0 : Heap} {tk0 : Nat} {m0 : Str → Option Value} {cs0 : List (Addr × Obj)} {Q : Value → Shared → Prop}
    (G : SrcC c I fp P Stt W0 (.li [])) (hcell : (sc.names.all fun y => decide (y.2 ≠ .cell)) = true) (hK : W0.ms.length = K)
    (hI : c.H.get? I = none ∧ I ≠ c.L) (hIl : I < h0.objs.size) (off : ∀ p ∈ cs0 ++ W0.fr, p.1 ≠ I) (R0 : RepX c W0 ⟨l, cells⟩ h0 m0 cs0) (s0 : Stt 0 h0) (hacc : ∀ F ms o, IsM w F ms (.list []) o → IsM w F ms acc o)
    (kQ : To c W0 ⟨l, cells ++ [acc]⟩ (Iv c (.cell K)) Q) :
    wpAny c.M c.A (newList []) (fun acc s₃ => wpAny c.M c.A (newFunctionEnv sc c.env.globals cl [] c.env.qual none .none (some c.env)) (fun cenv s₄ =>
      codeAny c.M c.A (.compStart (.ListComp elt [⟨target, iter, ifs, 0⟩] sc pos) 0 (.ref I) acc { cenv with scope := relabel sc c.env }) (compPost c.M c.A never none Q acc cenv.locals) s₄) never s₃) never (c.sh h0 tk0) := by
  refine wpAny_newObj_type (wpAny_newFunctionEnv (fun x hx => of_decide_eq_true (List.all_eq_true.mp hcell x hx)) (by intro y hy; cases hy) (fun h₁ hns₁ hsb₁ => ?_) hk)
  dsimp only at hns₁ hsb₁ ⊢
  generalize hH2 : Heap.push (c.sh h0 tk0).heap { cls := .type "list", dict := none, data := .seq ([] : List Value).toArray } = H2 at hns₁ hsb₁ ⊢
  have eD : (c.sh h0 tk0).heap.objs.size = h0.objs.size := rfl
  have hC : H2.objs.size = h0.objs.size + 1 := by rw [← hH2, Heap.size_push]
  have fresh : ∀ a, h0.objs.size ≤ a → c.H.get? a = none ∧ a ≠ c.L := fun a ha => by
    refine ⟨?_, fun e => absurd R0.fr.ns.lt (Nat.not_lt.mpr (e ▸ ha))⟩
    cases q : c.H.get? a with
    | none => rfl
    | some o => exact absurd (Heap.lt_size (R0.fr.keep _ _ q)) (Nat.not_lt.mpr ha)
  have old : ∀ b o, h0.get? b = some o → h₁.get? b = some o := fun b o e => hsb₁.extBut b o (by rw [hC]; exact Nat.ne_of_lt (Nat.lt_succ_of_lt (Heap.lt_size e))) (Heap.get?_push_of_some _ (hH2 ▸ Heap.get?_push_of_some _ e))
  have zD : h₁.get? h0.objs.size = some (PySem.W.listOf (List.toArray []) 0) := hsb₁.extBut _ _ (by rw [hC]; exact Nat.ne_of_lt (Nat.lt_succ_self _)) (Heap.get?_push_of_some _ (hH2 ▸ Heap.get?_push_size _ rfl))
  have R1 : RepX c W0 ⟨l, cells⟩ h₁ m0 cs0 := R0.same (R0.fr.keeps old) fun p hp => ⟨old _ _ (R0.news p hp).1, (R0.news p hp).2⟩
  have st1 : Stt 0 h₁ := G.K.frame _ _ _ s0 fun b _ o e => old b o e
  have lo : ∀ p ∈ cs0 ++ W0.fr, p.1 < h0.objs.size := fun p hp => Heap.lt_size (R0.news p hp).1
  rw [hC] at hns₁ ⊢
  have hID : I ≠ h0.objs.size := Nat.ne_of_lt hIl
  have hIC : I ≠ h0.objs.size + 1 := Nat.ne_of_lt (Nat.lt_succ_of_lt hIl)
  have hDC : h0.objs.size ≠ h0.objs.size + 1 := Nat.ne_of_lt (Nat.lt_succ_self _)
  have hD := fresh h0.objs.size (Nat.le_refl _)
  have hCf := fresh (h0.objs.size + 1) (Nat.le_succ _)
  have loop : ∀ tk, codeAny c.M c.A (.compLoop (.ListComp elt [⟨target, iter, ifs, 0⟩] sc pos) 0 (.ref I) (.ref h0.objs.size) (compEnvC sc cl (h0.objs.size + 1) c.env)) (compPost c.M c.A never none Q (.ref h0.objs.size) (h0.objs.size + 1)) (c.sh h₁ tk) := fun tk => by
    refine compLoop_done (G.K.done (c.sh h₁ tk) _ _ st1 fun h2 tk1 k1 => ⟨rfl, ?_⟩)
    have X1 := R1.apart (h' := h2) k1 (fun a ha => by rw [List.mem_singleton.mp ha]; exact hI) fun p hp hm => off p hp (List.mem_singleton.mp hm)
    have zD1 : h2.get? h0.objs.size = some (PySem.W.listOf (List.toArray []) 0) := k1 _ _ (fun hm => hID (List.mem_singleton.mp hm).symm) zD
    refine ⟨_, hns₁.at' fun o e => k1 _ o (fun hm => hIC (List.mem_singleton.mp hm).symm) e, fun h' hs => ?_⟩
    have X2 := X1.apart (wr := [h0.objs.size + 1]) (h' := h') (fun b o hb e => hs.extBut b o (fun q => hb (List.mem_singleton.mpr q)) e) (fun a ha => by rw [List.mem_singleton.mp ha]; exact hCf) fun p hp hm => absurd (lo p hp) ((List.mem_singleton.mp hm) ▸ Nat.not_lt.mpr (Nat.le_succ _))
    have zD2 : h'.get? h0.objs.size = some (PySem.W.listOf (List.toArray []) 0) := hs.extBut _ _ hDC zD1
    obtain ⟨X3, _⟩ := X2.snoc X2.fr (I := h0.objs.size) (o := PySem.W.listOf (List.toArray []) 0) (mo := acc) (all_cons ⟨zD2, hD.2, hD.1⟩ X2.news) (fun p hp e => absurd (lo p hp) (e ▸ Nat.lt_irrefl _)) (hacc _ _ _ (.list .nil))
    refine kQ ⟨W0.fr, W0.ms ++ [h0.objs.size]⟩ (.ref h0.objs.size) h' tk1 ⟨fun _ q => q, msnoc⟩ ⟨m0, _, X3⟩ (.cell ?_)
    rw [← hK, List.getElem?_append_right (Nat.le_refl _), Nat.sub_self]; rfl
  exact codeAny_compStart_list (loop _) (G.K.self 0 _ _ _ st1 (loop _))
theorem Ev_comp0 {iter elt target : Expr} {pos : Pos} {ifs : List Expr} {K : Nat} (hk : sc.kind = .function) (hi : Ev c iter st p ⟨l, cells⟩) (hsrc : Src1 c p (.li [])) (hs : ∀ y, foldedSetIterable iter c.env y = pure y) (hfree : freeOk sc st.loc = true)
    (hcell : (sc.names.all fun y => decide (y.2 ≠ .cell)) = true) (hnames : ∀ y ∈ sc.names, y.2 = .local → sc.names.lookup y.1 = some .local) (hK : cells.length = K)
    (hacc : ∀ F ms o, IsM w F ms (.list []) o → IsM w F ms acc o) : Ev c (.ListComp elt [⟨target, iter, ifs, 0⟩] sc pos) st (.cell K) ⟨l, cells ++ [acc]⟩ := by
  rintro W g tk ⟨m0, cs0, R0⟩ Q kQ
  obtain ⟨cl, hcl, hto, hall⟩ := closure_ex (sc := sc) (env := c.env) fun e he hf => by
    have := List.all_eq_true.mp hfree e he
    rw [hf] at this
    split at this
    · rename_i i hl
      obtain ⟨a, e1, _⟩ := var_at R0 hl
      exact ⟨a, e1⟩
    · cases this
  rw [eval_ListComp]
  refine wpAny_comprehension_free (use := none) rfl hs hcl hk hnames (hi W g tk ⟨m0, cs0, R0⟩ _ fun W1 v h1 tk1 l1 ⟨m, cs, R1⟩ iv => ?_)
  refine hsrc W1 v h1 (fun a o q => R1.at q) iv tk1 _ fun o fp P Stt G s0 hfp => ?_
  exact gblock0 hk G hcell (by rw [← R1.ms, List.length_map, ← R1.len]; exact hK) ⟨next_is_new R1.fr, Nat.ne_of_gt R1.fr.ns.lt⟩ (by rw [Heap.size_push]; exact Nat.lt_succ_self _) (fun p hp => Nat.ne_of_lt (Heap.lt_size (R1.news p hp).1))
    (R1.same (R1.fr.push o) fun p hp => ⟨Heap.get?_push_of_some _ (R1.news p hp).1, (R1.news p hp).2⟩) s0 hacc (kQ.up l1)
end
noncomputable def IsComp0 (e : Expr) (it : Expr) (sc : Scope) : Prop := setLit it = false ∧ ∃ elt tg ifs pos, e = .ListComp elt [⟨tg, it, ifs, 0⟩] sc pos
noncomputable def comp0C (e : Expr) : Option {_u : Unit // IsComp0 e (compIt e) (compSc e)} := match e with
  | .ListComp elt [⟨tg, it, ifs, 0⟩] sc pos => match h : setLit it with
    | false => some ⟨(), h, elt, tg, ifs, pos, rfl⟩
    | true => none
  | _ => none
noncomputable def comp0Ok (e : Expr) (l : List (Str × PV)) : Bool := (comp0C e).isSome && (decide ((compSc e).kind = .function) && (((compSc e).names.all fun y => decide (y.2 ≠ .cell)) && (((compSc e).names.all fun y => decide (y.2 = .local → (compSc e).names.lookup y.1 = some .local)) && freeOk (compSc e) l)))
theorem EvG_comp0 {w : World} {x : Cx w} {e : Expr} {l : List (Str × PV)} {K : Nat} {cells0 cells : List MO} {acc : MO} (hok : comp0Ok e l = true) (hi : EvG x (compIt e) ⟨l, cells0⟩ (.tup []) ⟨l, cells⟩) (hK : cells.length = K)
    (hacc : ∀ F ms o, IsM w F ms (.list []) o → IsM w F ms acc o) : EvG x e ⟨l, cells0⟩ (.cell K) ⟨l, cells ++ [acc]⟩ := fun c hc => by
  unfold comp0Ok at hok
  rw [Bool.and_eq_true, Bool.and_eq_true, Bool.and_eq_true, Bool.and_eq_true] at hok
  obtain ⟨h0, h1, h3, h4, h6⟩ := hok
  cases q : comp0C e with
  | none => rw [q] at h0; cases h0
  | some y =>
    obtain ⟨hl, elt, tg, ifs, pos, h⟩ := y.2
    have key := Ev_comp0 (c := c) (elt := elt) (target := tg) (ifs := ifs) (pos := pos) (of_decide_eq_true h1) (hi c hc) Src1.tup (fold_ok hl) h6 h3 (fun y hy => of_decide_eq_true (List.all_eq_true.mp h4 y hy)) hK hacc
    rw [← h] at key
    exact key
/-! for over nothing -/
section
variable {w : World} {c : Act w} {p : PV} {st st1 : AS}
theorem forLoop_done {prog : Program} {A : Around} {R : Result → Shared → Prop} {s : Shared} {target : Expr} {body : List Stmt} {it : Value} {env : Env}
    (h : wpAny (model prog w) A (pyNext it) (fun r s₁ => r = none ∧ R (.ok .next) s₁) (notedBy (model prog w) A env fun e s' => R (.error e) s') s) : codeAny (model prog w) A (.forLoop target it body [] env) R s :=
  codeAny_forLoop_any (fun _ s' => s' = s) (fun n s' hI => by
    subst hI
    refine wpAny_mono h (fun r s₁ h₁ => ?_) fun _ _ h' => h'
    obtain ⟨rfl, h₁⟩ := h₁
    exact wpAny_execs_nil h₁) 0 rfl
theorem Ex1_for0 {target iter : Expr} {pos : Pos} {body : List Stmt} (hi : Ev c iter st (.tup []) st1) (hs : ∀ y, foldedSetIterable iter c.env y = pure y) : Ex1 c (.For target iter body [] pos) st .next st1 := by
  intro W g tk R0 Q kQ
  refine wpAny_For (hi W g tk R0 _ fun W1 v h tk1 l1 ⟨m, cs, R1⟩ iv => ?_) hs
  obtain ⟨ax, n, vs, rfl, hF, il⟩ := Is.tup_inv iv
  cases il
  have hl : IsTup h ax (List.toArray []) := isT (R1.at hF)
  have hlt := Heap.lt_size (R1.at hF)
  refine wpAny_pyIter_tuple hl (forLoop_done ((Walks.tuple (by exact c.hand) h.objs.size ax (Nat.ne_of_lt hlt) (List.toArray [])).done _ _ _ ⟨⟨_, Heap.get?_push_size _ rfl, rfl, rfl⟩, (show h.IsTuple ax _ from hl).at fun o e => Heap.get?_push_of_some _ e⟩ fun h2 tk2 k2 => ⟨rfl, ?_⟩))
  have X1 := R1.same (h' := h.push { cls := Value.type "tuple_iterator", data := Data.fields #[Value.ref ax, Value.int 0 0] }) (R1.fr.push _) fun p hp => ⟨Heap.get?_push_of_some _ (R1.news p hp).1, (R1.news p hp).2⟩
  exact kQ W1 .next h2 tk2 l1 ⟨m, cs, X1.apart k2 (fun a ha => by rw [List.mem_singleton.mp ha]; exact ⟨next_is_new R1.fr, Nat.ne_of_gt R1.fr.ns.lt⟩) fun p hp hm => absurd (Heap.lt_size (R1.news p hp).1) ((List.mem_singleton.mp hm) ▸ Nat.lt_irrefl _)⟩ .next
noncomputable def IsFor0 (s : Stmt) (it : Expr) : Prop := setLit it = false ∧ ∃ tg b pos, s = .For tg it b [] pos
noncomputable def for0It (s : Stmt) : Expr := match s with | .For _ it _ _ _ => it | _ => .Constant .none 0 default
noncomputable def for0C (s : Stmt) : Option {_u : Unit // IsFor0 s (for0It s)} := match s with
  | .For tg it b [] pos => match h : setLit it with
    | false => some ⟨(), h, tg, b, pos, rfl⟩
    | true => none
  | _ => none
theorem Ex1G_for0 {x : Cx w} {s : Stmt} (hs : (for0C s).isSome = true) (hi : EvG x (for0It s) st (.tup []) st1) : Ex1G x s st .next st1 := fun c hc => by
  cases q : for0C s with
  | none => rw [q] at hs; cases hs
  | some y =>
    obtain ⟨hl, tg, b, pos, h⟩ := y.2
    have key := Ex1_for0 (target := tg) (body := b) (pos := pos) (hi c hc) (fold_ok hl)
    rw [← h] at key
    exact key
theorem Op_eq_tup0 : Opd c st (.tup []) (.tup []) (compareOp .Eq) (.bool true) st := fun W h tk a b ⟨m, cs, R⟩ i j Q kQ => by
  obtain ⟨a, n, vs, rfl, hF, il⟩ := i.tup_inv
  obtain ⟨b, n', us, rfl, hG, jl⟩ := j.tup_inv
  cases il
  cases jl
  have key := SeqAt.RcAt.tuples (s := c.sh h tk) (A := c.A) (e := fun _ => true) (isT (R.at hF)) (isT (R.at hG)) (Nat.lt_of_lt_of_le c.units (by decide)) fun k h1 h2 => absurd h1 (Nat.not_lt_zero _)
  exact key c.prog w never Q (kQ W _ h tk .rfl ⟨m, cs, R⟩ .bool)
end
section
variable {w : World} {g : Gl w} {n f : Nat} {args : List PV} {cs1 : List MO} {p : PV}
theorem Left.news {F : Addr → Obj → Prop} {h h' : Heap} {cs' tl : List (Addr × Obj)} {ex : List Addr} (D : Left w F h h' [] cs' tl ex cs1) : ∀ p ∈ cs', h'.get? p.1 = some p.2 ∧ h.get? p.1 = none := fun p hp => by
  have hm : p.1 ∈ cs'.map (·.1) := List.mem_map_of_mem hp
  rw [D.ms] at hm
  exact ⟨D.cells.at_ p hp, (D.fresh _ hm).1⟩
/-- what a call has made, frozen -/
theorem CallTo.frz (h : CallTo g n f args [] p cs1) : CallTo g n f args [] (fz 9 cs1 0 p) [] := fun A h0 tk gs dr os F cs vs S Q kQ => h A h0 tk gs dr os F cs vs S Q fun v h' tk' tl cs' ex D iv => by
  obtain rfl : cs = [] := List.eq_nil_of_length_eq_zero S.cells.len.symm
  refine kQ v h' tk' (tl ++ cs') [] [] ⟨D.keep, fun p hp => (List.mem_append.mp hp).elim (D.new p) (D.news p), rfl, fun a ha => (nomatch ha), ⟨fun p hp => (nomatch hp), .nil, rfl, fun i mo e => (nil_get e).elim⟩⟩ ?_
  have X : Cut w cs1 0 (fun a o => F a o ∨ (a, o) ∈ tl) (fun a o => F a o ∨ (a, o) ∈ tl ++ cs') cs' := ⟨fun a o q => q.imp id (List.mem_append_left _), fun i a o _ e => .inr (List.mem_append_right _ (List.mem_of_getElem? e)), D.cells.len, D.cells.is⟩
  exact Drop.fz p _ _ cs' X v iv
end
end

end
noncomputable section
/-! the values of the program -/
noncomputable def codesP (cs : List Int) : PV := .seq cs.length fun j => .int (cs.getD j 0)
noncomputable def viewP (cs : List Int) : PV := .inst 158 [((Str.ofString "codes"), codesP cs), ((Str.ofString "first"), .int 1)]
noncomputable def optsP : PV := .inst 59 [((Str.ofString "tab_width"), .int 8), ((Str.ofString "has_carets"), .bool true), ((Str.ofString "truncates"), .bool false), ((Str.ofString "wraps_words"), .bool false), ((Str.ofString "hscroll"), .int 0)]
noncomputable def spotP (z : Int) : PV := .tup [.int z, .int 0]
noncomputable def tableP (_w : World) : PV := .inst 655 [((Str.ofString "by_name"), .any), ((Str.ofString "looks"), .list [.glob (.ref 588)]), ((Str.ofString "numbers"), .any)]
noncomputable def codeAt (cs : List Int) (k : Int) : Int := if 1 ≤ k ∧ k < 1 + (cs.length : Int) then cs.getD (k - 1).toNat 0 else -1
theorem nc_view {cs : List Int} : NC (viewP cs) := .inst (NCD.cons (.seq fun _ => .int) (NCD.cons .int NCD.nil))
theorem nc_opts : NC optsP := .inst (NCD.cons .int (NCD.cons .bool (NCD.cons .bool (NCD.cons .bool (NCD.cons .int NCD.nil)))))
theorem nc_spot {z : Int} : NC (spotP z) := .tup (NCL.cons .int (NCL.cons .int NCL.nil))
theorem nc_table {w : World} : NC (tableP w) := .inst (NCD.cons .any (NCD.cons (.list (NCL.cons .glob NCL.nil)) (NCD.cons .any NCD.nil)))
section
variable {w : World} {g : Gl w} {n f : Nat} {args : List PV} {cells cells' : List MO} {r r' : PV} {cs : List Int}
theorem CallTo.conv (h : CallTo g n f args cells r cells') (c : ∀ F ms v, Is w F ms r v → Is w F ms r' v) : CallTo g n f args cells r' cells' := fun A h0 tk gs dr os F cs vs S Q kQ =>
  h A h0 tk gs dr os F cs vs S Q fun v h' tk' tl cs' ex D i => kQ v h' tk' tl cs' ex D (c _ _ _ i)
theorem sb_bool {b b' : Bool} (e : b = b') : ∀ F ms v, Is w F ms (.sbool b) v → Is w F ms (.bool b') v := fun F ms v i => by
  cases i; rw [e]; exact .bool
theorem int_eq {a b : Int} (e : a = b) : ∀ F ms v, Is w F ms (.int a) v → Is w F ms (.int b) v := fun F ms v i => e ▸ i
noncomputable def signsP (l : List PV) (a r : Int) : PV := .inst 179 [((Str.ofString "rows"), .list l), ((Str.ofString "after"), .int a), ((Str.ofString "reach"), .int r)]
noncomputable def signP (x z : Int) : PV := .tup [.int x, .int 0, .int z]
end

end
noncomputable section
noncomputable def Run (cs : List Int) (P : Int) (d : Nat) : Prop := 1 ≤ P ∧ P + d ≤ 1 + (cs.length : Int) ∧ d ≤ 10 ∧ ∀ i : Nat, i < d → codeAt cs (P + i) = 97
noncomputable def Stops (cs : List Int) (q : Int) (b : Bool) : Prop := (b = true ∧ q < 1 + (cs.length : Int) ∧ codeAt cs q = 10) ∨ (b = false ∧ q = 1 + (cs.length : Int))
/-- the text's n lines: line i begins at P i and has D i letters -/
structure Text (cs : List Int) (n : Nat) (P : Nat → Int) (D : Nat → Nat) : Prop where
  one : 1 ≤ n
  nine : n ≤ 9
  first : P 0 = 1
  run : ∀ i, i < n → Run cs (P i) (D i)
  stops : ∀ i, i < n → Stops cs (P i + D i) (decide (i + 1 < n))
  next : ∀ i, i < n → P (i + 1) = P i + D i + 1
section
variable {cs : List Int} {n : Nat} {P : Nat → Int} {D : Nat → Nat}
theorem Text.fin (T : Text cs n P D) : P n = 1 + cs.length + 1 := by
  have h1 := T.one
  have h2 := T.next (n - 1) (by omega)
  have h3 := T.stops (n - 1) (by omega)
  rw [show n - 1 + 1 = n by omega] at h2 h3
  rcases h3 with ⟨h, _⟩ | ⟨_, h⟩
  · simp at h
  · omega
theorem Text.up (T : Text cs n P D) {i : Nat} : ∀ k, i + k ≤ n → P i + k ≤ P (i + k)
  | 0, _ => by simp
  | k + 1, h => by
    have := T.up (i := i) k (by omega)
    have h2 := T.next (i + k) (by omega)
    rw [← Nat.add_assoc, h2]
    push_cast
    omega
theorem Text.le (T : Text cs n P D) {i j : Nat} (h : i ≤ j) (hj : j ≤ n) : P i ≤ P j := by
  have := T.up (i := i) (j - i) (by omega)
  rw [show i + (j - i) = j by omega] at this
  omega
theorem Text.lt (T : Text cs n P D) {i j : Nat} (h : i < j) (hj : j ≤ n) : P i < P j := by
  have := T.up (i := i) (j - i) (by omega)
  rw [show i + (j - i) = j by omega] at this
  omega
theorem Text.pos (T : Text cs n P D) {i : Nat} (h : i ≤ n) : 1 ≤ P i := by
  have := T.le (Nat.zero_le i) h
  rw [T.first] at this
  exact this
/-- the letter ahead of a line's begin is the end of the line before -/
theorem Text.nl (T : Text cs n P D) {i : Nat} (h : i + 1 < n) : codeAt cs (P (i + 1) - 1) = 10 := by
  have h2 := T.next i (by omega)
  rcases T.stops i (by omega) with ⟨_, _, h⟩ | ⟨h, _⟩
  · rw [h2]; rw [show P i + D i + 1 - 1 = P i + D i by omega]; exact h
  · simp at h; omega
theorem Text.let' (T : Text cs n P D) {i : Nat} (hi : i < n) {q : Int} (h1 : P i < q) (h2 : q < P (i + 1)) : codeAt cs (q - 1) = 97 := by
  have h3 := T.next i hi
  have h4 := (T.run i hi).2.2.2 (q - 1 - P i).toNat (by omega)
  rw [show P i + ((q - 1 - P i).toNat : Int) = q - 1 by omega] at h4
  exact h4
/-- where line i's row ends -/
noncomputable def qOf (n : Nat) (P : Nat → Int) (i : Nat) : Int := if i + 1 < n then P (i + 1) else P (i + 1) - 1
theorem qOf_in {i : Nat} (h : i + 1 < n) : qOf n P i = P (i + 1) := if_pos h
theorem qOf_out {i : Nat} (h : ¬ i + 1 < n) : qOf n P i = P (i + 1) - 1 := if_neg h
theorem Text.q (T : Text cs n P D) {i : Nat} (hi : i < n) : qOf n P i = if decide (i + 1 < n) = true then P i + D i + 1 else P i + D i := by
  have h := T.next i hi
  by_cases e : i + 1 < n
  · rw [qOf_in e, if_pos (by simp [e]), h]
  · rw [qOf_out e, if_neg (by simp [e]), h]; omega
end
noncomputable def lineOn (n i : Nat) (c : Int) : Nat := (min (max ((i : Int) + c) 0) ((n : Int) - 1)).toNat
/-- where point stands after the window begins at line j -/
noncomputable def shownPt (n : Nat) (P : Nat → Int) (j high : Nat) (z : Int) : Int :=
  if P j ≤ z ∧ (z < qOf n P (j + min high (n - j) - 1) ∨ j + min high (n - j) = n) then z else if z < P j then P j else P (j + min high (n - j) - 1)
section
variable {cs : List Int} {n : Nat} {P : Nat → Int} {D : Nat → Nat}
theorem Text.line (T : Text cs n P D) {z : Int} (h1 : 1 ≤ z) (h2 : z < P n) : ∃ i, i < n ∧ P i ≤ z ∧ z < P (i + 1) := by
  have key : ∀ k, k ≤ n → z < P k → ∃ i, i < k ∧ P i ≤ z ∧ z < P (i + 1) := by
    intro k
    induction k with
    | zero => intro _ h; rw [T.first] at h; omega
    | succ k ih =>
      intro hk h
      by_cases hz : z < P k
      · obtain ⟨i, hi, h3, h4⟩ := ih (by omega) hz
        exact ⟨i, by omega, h3, h4⟩
      · exact ⟨k, by omega, by omega, h⟩
  exact key n (Nat.le_refl _) h2
theorem Text.below (T : Text cs n P D) {i j : Nat} {z : Int} (hj : j ≤ n) (h1 : P i ≤ z) (h2 : z < P (i + 1)) (hi : i < n) : z < P j ↔ i < j := by
  constructor
  · intro h
    by_cases e : i < j
    · exact e
    · have := T.le (i := j) (j := i) (by omega) (by omega)
      omega
  · intro h
    have := T.le (i := i + 1) (j := j) (by omega) hj
    omega
theorem shownPt_eq (T : Text cs n P D) {i j high : Nat} {z : Int} (hj : j < n) (hh : 1 ≤ high) (h1 : P i ≤ z) (h2 : z < P (i + 1)) (hi : i < n) :
    shownPt n P j high z = if i < j then P j else if j + high ≤ i then P (j + high - 1) else z := by
  have e1 := T.below (j := j) (by omega) h1 h2 hi
  unfold shownPt
  by_cases a : i < j
  · have b : z < P j := e1.mpr a
    rw [if_neg (by omega), if_pos b, if_pos a]
  · have b : ¬ z < P j := fun h => a (e1.mp h)
    rw [if_neg a]
    by_cases c : j + high ≤ i
    · have hk : min high (n - j) = high := by omega
      have e2 := T.below (j := j + high) (by omega) h1 h2 hi
      have d : ¬ z < P (j + high) := fun h => by have := e2.mp h; omega
      rw [if_pos c, hk]
      have q : qOf n P (j + high - 1) = P (j + high) := by rw [qOf_in (by omega), show j + high - 1 + 1 = j + high by omega]
      rw [if_neg (by rw [q]; omega), if_neg b]
    · rw [if_neg c]
      rw [if_pos]
      refine ⟨by omega, ?_⟩
      by_cases f : j + min high (n - j) = n
      · exact .inr f
      · left
        have hk : min high (n - j) = high := by omega
        have e2 := T.below (j := j + high) (by omega) h1 h2 hi
        rw [hk, qOf_in (by omega), show j + high - 1 + 1 = j + high by omega]
        exact e2.mpr (by omega)
end

end
noncomputable section
section
variable {w : World} {g : Gl w} {n : Nat} {cs : List Int} {z x : Int}
theorem fn_113 (P : Params) : FnAt (hd.heap_39 P) 113 [(Str.ofString "self")] := ⟨by kernel_rfl, by kernel_rfl, by kernel_rfl, by decide +kernel, by rintro (_ | ⟨v0, _ | ⟨v1, vs⟩⟩) h <;> first | (simp at h; done) | kernel_rfl⟩
theorem fn_120 (P : Params) : FnAt (hd.heap_39 P) 120 [(Str.ofString "self")] := ⟨by kernel_rfl, by kernel_rfl, by kernel_rfl, by decide +kernel, by rintro (_ | ⟨v0, _ | ⟨v1, vs⟩⟩) h <;> first | (simp at h; done) | kernel_rfl⟩
theorem fn_127 (P : Params) : FnAt (hd.heap_39 P) 127 [(Str.ofString "self"), (Str.ofString "place")] := ⟨by kernel_rfl, by kernel_rfl, by kernel_rfl, by decide +kernel, by rintro (_ | ⟨v0, _ | ⟨v1, _ | ⟨v2, vs⟩⟩⟩) h <;> first | (simp at h; done) | kernel_rfl⟩
theorem fn_134 (P : Params) : FnAt (hd.heap_39 P) 134 [(Str.ofString "self"), (Str.ofString "place")] := ⟨by kernel_rfl, by kernel_rfl, by kernel_rfl, by decide +kernel, by rintro (_ | ⟨v0, _ | ⟨v1, _ | ⟨v2, vs⟩⟩⟩) h <;> first | (simp at h; done) | kernel_rfl⟩
theorem fn_141 (P : Params) : FnAt (hd.heap_39 P) 141 [(Str.ofString "self"), (Str.ofString "place")] := ⟨by kernel_rfl, by kernel_rfl, by kernel_rfl, by decide +kernel, by rintro (_ | ⟨v0, _ | ⟨v1, _ | ⟨v2, vs⟩⟩⟩) h <;> first | (simp at h; done) | kernel_rfl⟩
theorem fn_148 (P : Params) : FnAt (hd.heap_39 P) 148 [(Str.ofString "self"), (Str.ofString "place")] := ⟨by kernel_rfl, by kernel_rfl, by kernel_rfl, by decide +kernel, by rintro (_ | ⟨v0, _ | ⟨v1, _ | ⟨v2, vs⟩⟩⟩) h <;> first | (simp at h; done) | kernel_rfl⟩
theorem fn_155 (P : Params) : FnAt (hd.heap_39 P) 155 [(Str.ofString "self"), (Str.ofString "place")] := ⟨by kernel_rfl, by kernel_rfl, by kernel_rfl, by decide +kernel, by rintro (_ | ⟨v0, _ | ⟨v1, _ | ⟨v2, vs⟩⟩⟩) h <;> first | (simp at h; done) | kernel_rfl⟩
theorem fn_190 (P : Params) : FnAt (hd.heap_39 P) 190 [(Str.ofString "view"), (Str.ofString "place")] := ⟨by kernel_rfl, by kernel_rfl, by kernel_rfl, by decide +kernel, by rintro (_ | ⟨v0, _ | ⟨v1, _ | ⟨v2, vs⟩⟩⟩) h <;> first | (simp at h; done) | kernel_rfl⟩
theorem fn_211 (P : Params) : FnAt (hd.heap_39 P) 211 [(Str.ofString "view"), (Str.ofString "place")] := ⟨by kernel_rfl, by kernel_rfl, by kernel_rfl, by decide +kernel, by rintro (_ | ⟨v0, _ | ⟨v1, _ | ⟨v2, vs⟩⟩⟩) h <;> first | (simp at h; done) | kernel_rfl⟩
theorem fn_387 (P : Params) : FnAt (hd.heap_39 P) 387 [(Str.ofString "view"), (Str.ofString "place")] := ⟨by kernel_rfl, by kernel_rfl, by kernel_rfl, by decide +kernel, by rintro (_ | ⟨v0, _ | ⟨v1, _ | ⟨v2, vs⟩⟩⟩) h <;> first | (simp at h; done) | kernel_rfl⟩
theorem fn_77 (P : Params) : FnAt (hd.heap_39 P) 77 [(Str.ofString "code")] := ⟨by kernel_rfl, by kernel_rfl, by kernel_rfl, by decide +kernel, by rintro (_ | ⟨v0, _ | ⟨v1, vs⟩⟩) h <;> first | (simp at h; done) | kernel_rfl⟩
theorem fn_70 (P : Params) : FnAt (hd.heap_39 P) 70 [(Str.ofString "code")] := ⟨by kernel_rfl, by kernel_rfl, by kernel_rfl, by decide +kernel, by rintro (_ | ⟨v0, _ | ⟨v1, vs⟩⟩) h <;> first | (simp at h; done) | kernel_rfl⟩
theorem fn_91 (P : Params) : FnAt (hd.heap_39 P) 91 [(Str.ofString "code"), (Str.ofString "column"), (Str.ofString "options")] := ⟨by kernel_rfl, by kernel_rfl, by kernel_rfl, by decide +kernel, by rintro (_ | ⟨v0, _ | ⟨v1, _ | ⟨v2, _ | ⟨v3, vs⟩⟩⟩⟩) h <;> first | (simp at h; done) | kernel_rfl⟩
theorem a_begin : CallTo g (n + 1) 113 [viewP cs] [] (.int 1) [] := (run_code (k := 0) (fn_113 _) (show runP g n 113 [(Str.ofString "self")] [viewP cs] [] [] = some (.ret (.int 1), [], []) by kernel_rfl) rfl trivial rfl (Nat.zero_le _) (Nat.zero_le _) rfl rfl).call
theorem a_end (hc : cs.length ≤ 100) : CallTo g (n + 1) 120 [viewP cs] [] (.int (1 + (cs.length : Int))) [] :=
  (run_code (k := 0) (fn_120 _) (show runP g n 120 [(Str.ofString "self")] [viewP cs] [] [] = some (.ret (.int (1 + (cs.length : Int))), [], [cs.length ≤ 1000]) by kernel_rfl) rfl ⟨by omega, trivial⟩ rfl (Nat.zero_le _) (Nat.zero_le _) rfl rfl).call
theorem a_faces : CallTo g (n + 1) 134 [viewP cs, .int z] [] (.tup []) [] := (run_code (k := 0) (fn_134 _) (show runP g n 134 [(Str.ofString "self"), (Str.ofString "place")] [viewP cs, .int z] [] [] = some (.ret (.tup []), [], []) by kernel_rfl) rfl trivial rfl (Nat.zero_le _) (Nat.zero_le _) rfl rfl).call
theorem a_hidden : CallTo g (n + 1) 141 [viewP cs, .int z] [] (.int 0) [] := (run_code (k := 0) (fn_141 _) (show runP g n 141 [(Str.ofString "self"), (Str.ofString "place")] [viewP cs, .int z] [] [] = some (.ret (.int 0), [], []) by kernel_rfl) rfl trivial rfl (Nat.zero_le _) (Nat.zero_le _) rfl rfl).call
theorem a_shown_at : CallTo g (n + 1) 148 [viewP cs, .int z] [] .none [] := (run_code (k := 0) (fn_148 _) (show runP g n 148 [(Str.ofString "self"), (Str.ofString "place")] [viewP cs, .int z] [] [] = some (.ret .none, [], []) by kernel_rfl) rfl trivial rfl (Nat.zero_le _) (Nat.zero_le _) rfl rfl).call
theorem a_code_at (hc : cs.length ≤ 100) (h1 : 1 ≤ z) (h2 : z < 1 + (cs.length : Int)) : CallTo g (n + 2) 127 [viewP cs, .int z] [] (.int (codeAt cs z)) [] :=
  ((run_code (k := 0) (fn_127 _) (show runP g (n + 1) 127 [(Str.ofString "self"), (Str.ofString "place")] [viewP cs, .int z] [] [.call (.int 1) [], .b true, .call (.int (1 + cs.length)) [], .b true] = some (.ret (.int (cs.getD (z - 1).toNat 0)), [], [CallTo g (n + 1) 113 [viewP cs] [] (.int 1) [], decide (1 ≤ z) = true, CallTo g (n + 1) 120 [viewP cs] [] (.int (1 + (cs.length : Int))) [], decide (z < 1 + (cs.length : Int)) = true, 0 ≤ z - 1 ∧ z - 1 < (cs.length : Int) ∧ z - 1 < 1000000]) by kernel_rfl) rfl
    ⟨a_begin, by simpa using h1, a_end hc, by simpa using h2, by omega, trivial⟩ rfl (Nat.zero_le _) (Nat.zero_le _) rfl rfl).call).conv (int_eq (by unfold codeAt; rw [if_pos ⟨h1, h2⟩]))
theorem a_is_break (hc : cs.length ≤ 100) (h1 : 1 ≤ z) (h2 : z < 1 + (cs.length : Int)) : CallTo g (n + 3) 190 [viewP cs, .int z] [] (.bool (codeAt cs z == 10)) [] := by
  cases hb : codeAt cs z == 10 with
  | true =>
    exact (run_code (k := 0) (fn_190 _) (show runP g (n + 2) 190 [(Str.ofString "view"), (Str.ofString "place")] [viewP cs, .int z] [] [.call (.int (codeAt cs z)) [], .b true, .call (.int 0) [], .b true, .call .none []] = some (.ret (.bool true), [], [CallTo g (n + 2) 127 [viewP cs, .int z] [] (.int (codeAt cs z)) [], (codeAt cs z == 10) = true, CallTo g (n + 2) 141 [viewP cs, .int z] [] (.int 0) [], ((0 : Int) == 0) = true, CallTo g (n + 2) 148 [viewP cs, .int z] [] .none []]) by kernel_rfl) rfl
      ⟨a_code_at hc h1 h2, hb, a_hidden, rfl, a_shown_at, trivial⟩ rfl (Nat.zero_le _) (Nat.zero_le _) rfl rfl).call
  | false =>
    exact ((run_code (k := 0) (fn_190 _) (show runP g (n + 2) 190 [(Str.ofString "view"), (Str.ofString "place")] [viewP cs, .int z] [] [.call (.int (codeAt cs z)) [], .b false] = some (.ret (.sbool (codeAt cs z == 10)), [], [CallTo g (n + 2) 127 [viewP cs, .int z] [] (.int (codeAt cs z)) [], (codeAt cs z == 10) = false]) by kernel_rfl) rfl
      ⟨a_code_at hc h1 h2, hb, trivial⟩ rfl (Nat.zero_le _) (Nat.zero_le _) rfl rfl).call).conv (sb_bool hb)
theorem a_shown_place (hc : cs.length ≤ 100) : CallTo g (n + 2) 211 [viewP cs, .int z] [] (.int z) [] := by
  cases hb : decide (z ≥ 1 + (cs.length : Int)) with
  | true => exact (run_code (k := 0) (fn_211 _) (show runP g (n + 1) 211 [(Str.ofString "view"), (Str.ofString "place")] [viewP cs, .int z] [] [.call (.int (1 + (cs.length : Int))) [], .b true] = some (.ret (.int z), [], [CallTo g (n + 1) 120 [viewP cs] [] (.int (1 + (cs.length : Int))) [], decide (z ≥ 1 + (cs.length : Int)) = true]) by kernel_rfl) rfl ⟨a_end hc, hb, trivial⟩ rfl (Nat.zero_le _) (Nat.zero_le _) rfl rfl).call
  | false => exact (run_code (k := 0) (fn_211 _) (show runP g (n + 1) 211 [(Str.ofString "view"), (Str.ofString "place")] [viewP cs, .int z] [] [.call (.int (1 + (cs.length : Int))) [], .b false, .call (.int 0) [], .b true] = some (.ret (.int z), [], [CallTo g (n + 1) 120 [viewP cs] [] (.int (1 + (cs.length : Int))) [], decide (z ≥ 1 + (cs.length : Int)) = false, CallTo g (n + 1) 141 [viewP cs, .int z] [] (.int 0) [], ((0 : Int) == 0) = true]) by kernel_rfl) rfl ⟨a_end hc, hb, a_hidden, rfl, trivial⟩ rfl (Nat.zero_le _) (Nat.zero_le _) rfl rfl).call
/-! what stands at a place -/
theorem fn_221 (P : Params) : FnAt (hd.heap_39 P) 221 [(Str.ofString "view"), (Str.ofString "place")] := ⟨by kernel_rfl, by kernel_rfl, by kernel_rfl, by decide +kernel, by rintro (_ | ⟨v0, _ | ⟨v1, _ | ⟨v2, vs⟩⟩⟩) h <;> first | (simp at h; done) | kernel_rfl⟩
theorem fn_645 (P : Params) : FnAt (hd.heap_39 P) 645 [(Str.ofString "self"), (Str.ofString "names")] := ⟨by kernel_rfl, by kernel_rfl, by kernel_rfl, by decide +kernel, by rintro (_ | ⟨v0, _ | ⟨v1, _ | ⟨v2, vs⟩⟩⟩) h <;> first | (simp at h; done) | kernel_rfl⟩
theorem fn_176 (P : Params) : FnAt (hd.heap_39 P) 176 [(Str.ofString "self"), (Str.ofString "rows"), (Str.ofString "after"), (Str.ofString "reach")] := ⟨by kernel_rfl, by kernel_rfl, by kernel_rfl, by decide +kernel, by rintro (_ | ⟨v0, _ | ⟨v1, _ | ⟨v2, _ | ⟨v3, _ | ⟨v4, vs⟩⟩⟩⟩⟩) h <;> first | (simp at h; done) | kernel_rfl⟩
theorem fn_216 (w : World) : FnAtC (KK w) 216 [(Str.ofString "view"), (Str.ofString "table"), (Str.ofString "place")] [(Str.ofString "face")] := ⟨by kernel_rfl, by kernel_rfl, by decide +kernel, by rintro (_ | ⟨v0, _ | ⟨v1, _ | ⟨v2, _ | ⟨v3, vs⟩⟩⟩⟩) h <;> first | (simp at h; done) | kernel_rfl, by kernel_rfl, by decide +kernel⟩
theorem fn_233 (w : World) : FnAtC (KK w) 233 [(Str.ofString "view"), (Str.ofString "table"), (Str.ofString "place")] [(Str.ofString "face"), (Str.ofString "place")] := ⟨by kernel_rfl, by kernel_rfl, by decide +kernel, by rintro (_ | ⟨v0, _ | ⟨v1, _ | ⟨v2, _ | ⟨v3, vs⟩⟩⟩⟩) h <;> first | (simp at h; done) | kernel_rfl, by kernel_rfl, by decide +kernel⟩
theorem a_strings_at : CallTo g (n + 1) 155 [viewP cs, .int z] [] (.tup []) [] := (run_code (k := 0) (fn_155 _) (show runP g n 155 [(Str.ofString "self"), (Str.ofString "place")] [viewP cs, .int z] [] [] = some (.ret (.tup []), [], []) by kernel_rfl) rfl trivial rfl (Nat.zero_le _) (Nat.zero_le _) rfl rfl).call
noncomputable def sumA (s : Stmt) : Expr := match s with | .Return (some (.Call _ [a] _ _)) _ => a | _ => .Constant .none 0 default
theorem b_string_count : CallTo g (n + 3) 221 [viewP cs, .int z] [] (.int 0) [] := by
  let st0 : AS := ⟨[((Str.ofString "view"), viewP cs), ((Str.ofString "place"), .int z)], []⟩
  let st1 : AS := ⟨[((Str.ofString "view"), viewP cs), ((Str.ofString "place"), .int z)], [.seq 0 fun _ => .int 0]⟩
  have cp : EvG (.of g (n + 2) 221) (sumA (stAt (KK w) 221 0)) st0 (.cell 0) st1 := EvG_comp0 (l := [((Str.ofString "view"), viewP cs), ((Str.ofString "place"), .int z)]) (cells := []) (by kernel_rfl)
    (runE_ev (o := [.call (.tup []) []]) (ps := [CallTo g (n + 2) 155 [viewP cs, .int z] [] (.tup []) []]) (by kernel_rfl) ⟨(a_strings_at (n := n + 1)), trivial⟩) rfl nil_seq
  have sm : BCallG (.of g (n + 2) 221) (.builtin "sum") [.cell 0] st1 (.int 0) st1 := fun c hc => BCall_sum (c := c) (st := st1) (p := .cell 0) (k := 0) (f := fun _ => 0) rfl
  exact (run_code (k := 0) (fn_221 _) (show runP g (n + 2) 221 [(Str.ofString "view"), (Str.ofString "place")] [viewP cs, .int z] [] [.ev (.cell 0) st1, .ev (.int 0) st1] = some (.ret (.int 0), [.seq 0 fun _ => .int 0], [EvG (.of g (n + 2) 221) (sumA (stAt (KK w) 221 0)) st0 (.cell 0) st1, BCallG (.of g (n + 2) 221) (.builtin "sum") [.cell 0] st1 (.int 0) st1]) by kernel_rfl) rfl ⟨cp, sm, trivial⟩ rfl (Nat.zero_le _) (Nat.zero_le _) rfl rfl).call
theorem b_string_signs : CallTo g (n + 2) 216 [viewP cs, tableP w, .int z] [] (.list []) [] := by
  let l0 : List (Str × PV) := [((Str.ofString "view"), viewP cs), ((Str.ofString "table"), tableP w), ((Str.ofString "place"), .int z), ((Str.ofString "face"), .var 0)]
  let st0 : AS := ⟨l0, [.novar]⟩
  let st1 : AS := ⟨l0 ++ [((Str.ofString "found"), .cell 1)], [.novar, .list []]⟩
  have fo : Ex1G (.of g (n + 1) 216) (stAt (KK w) 216 1) st1 .next st1 := Ex1G_for0 (by kernel_rfl) (runE_ev (o := [.call (.tup []) [.novar, .list []]]) (ps := [CallTo g (n + 1) 155 [viewP cs, .int z] [.novar, .list []] (.tup []) [.novar, .list []]]) (by kernel_rfl) ⟨(a_strings_at (n := n)).frame (by repeat' (first | exact NCL.nil | refine NCL.cons ?_ ?_ | exact NC.int | exact NC.bool | exact NC.sbool | exact NC.none | exact NC.any | exact NC.anyi | exact nc_view | exact nc_pane | exact nc_rowsP | exact nc_rowK | exact nc_opts | exact nc_table | exact nc_spot | assumption | refine NC.tup ?_ | refine NC.list ?_ | refine NC.inst ?_ | exact NCD.nil | refine NCD.cons ?_ ?_ | exact NC.str | exact NC.seq (fun _ => NC.int))), trivial⟩)
  exact codeTo_cells (st0 := st0) (fn_216 w) rfl (all_cons (.inl ⟨.head _, by kernel_rfl⟩) (all_cons (.inl ⟨.tail _ (.head _), by kernel_rfl⟩) (all_cons (.inl ⟨.tail _ (.tail _ (.head _)), by kernel_rfl⟩) (all_cons (.inr ⟨0, rfl, rfl, by kernel_rfl⟩) all_nil)))) rfl (fun k mo e => by
      rcases k with _ | k
      · cases e; exact ⟨_, rfl, .inr ⟨by decide +kernel, rfl⟩⟩
      · exact (nil_get (i := k) e).elim)
    (runB_exs (o := [.st .next st1]) (show runB (.of g (n + 1) 216) (bodyOf (KK w) 216) st0 [.st .next st1] = some (.ret (.cell 1), st1, [Ex1G (.of g (n + 1) 216) (stAt (KK w) 216 1) st1 .next st1]) by kernel_rfl) ⟨fo, trivial⟩) rfl rfl (NCL.cons nc_view (NCL.cons nc_table (NCL.cons .int NCL.nil)))
theorem a_number_of : CallTo g (n + 1) 645 [tableP w, .tup []] [] (.int 0) [] :=
  (run_code (k := 0) (fn_645 _) (show runP g n 645 [(Str.ofString "self"), (Str.ofString "names")] [tableP w, .tup []] [] [.ev (.bool true) ⟨[((Str.ofString "self"), tableP w), ((Str.ofString "names"), .tup [])], []⟩] = some (.ret (.int 0), [], [OpG (.of g n 645) (compareOp .Eq) ⟨[((Str.ofString "self"), tableP w), ((Str.ofString "names"), .tup [])], []⟩ (.tup []) (.tup []) (.bool true) ⟨[((Str.ofString "self"), tableP w), ((Str.ofString "names"), .tup [])], []⟩]) by kernel_rfl) rfl ⟨fun c hc => Op_eq_tup0, trivial⟩ rfl (Nat.zero_le _) (Nat.zero_le _) rfl rfl).call
theorem a_own_spot (hc : cs.length ≤ 100) : CallTo g (n + 4) 387 [viewP cs, .int z] [] (spotP z) [] :=
  (run_code (k := 0) (fn_387 _) (show runP g (n + 3) 387 [(Str.ofString "view"), (Str.ofString "place")] [viewP cs, .int z] [] [.call (.int z) [], .call (.int 0) []] = some (.ret (.tup [.int z, .int 0]), [], [CallTo g (n + 3) 211 [viewP cs, .int z] [] (.int z) [], CallTo g (n + 3) 221 [viewP cs, .int z] [] (.int 0) []]) by kernel_rfl) rfl ⟨(a_shown_place (n := n + 1) hc).le (by omega), b_string_count, trivial⟩ rfl (Nat.zero_le _) (Nat.zero_le _) rfl rfl).call
theorem a_is_raw : CallTo g (n + 1) 77 [.int 97] [] (.bool false) [] :=
  ((run_code (k := 0) (fn_77 _) (show runP g n 77 [(Str.ofString "code")] [.int 97] [] [.b false] = some (.ret (.sbool (decide ((128 : Int) ≤ 97))), [], [decide ((128 : Int) ≤ 97) = false]) by kernel_rfl) rfl ⟨rfl, trivial⟩ rfl (Nat.zero_le _) (Nat.zero_le _) rfl rfl).call).conv (sb_bool rfl)
theorem a_is_control : CallTo g (n + 1) 70 [.int 97] [] (.bool false) [] :=
  ((run_code (k := 0) (fn_70 _) (show runP g n 70 [(Str.ofString "code")] [.int 97] [] [.b true, .b false, .b false] = some (.ret (.sbool ((97 : Int) == 127)), [], [decide ((0 : Int) ≤ 97) = true, decide ((97 : Int) < 32) = false, decide ((97 : Int) < 32) = false]) by kernel_rfl) rfl ⟨rfl, rfl, rfl, trivial⟩ rfl (Nat.zero_le _) (Nat.zero_le _) rfl rfl).call).conv (sb_bool rfl)
theorem a_shown_codes {q : PV} : CallTo g (n + 2) 91 [.int 97, q, optsP] [] (.list [.int 97]) [] :=
  (run_code (k := 0) (fn_91 _) (show runP g (n + 1) 91 [(Str.ofString "code"), (Str.ofString "column"), (Str.ofString "options")] [.int 97, q, optsP] [] [.b false, .b false, .call (.bool false) [], .call (.bool false) [], .call (.bool false) []] = some (.ret (.cell 0), [.list [.int 97]], [((97 : Int) == 10) = false, ((97 : Int) == 9) = false, CallTo g (n + 1) 77 [.int 97] [] (.bool false) [], CallTo g (n + 1) 70 [.int 97] [] (.bool false) [], CallTo g (n + 1) 70 [.int 97] [] (.bool false) []]) by kernel_rfl) rfl
    ⟨rfl, rfl, a_is_raw, a_is_control, a_is_control, trivial⟩ rfl (Nat.zero_le _) (Nat.zero_le _) rfl rfl).call
end
section
variable {w : World} {g : Gl w} {n : Nat} {cs : List Int} {z x : Int}
theorem seq1_list {f : Nat → PV} : ∀ F ms v, Is w F ms (.seq 1 f) v → Is w F ms (.list [f 0]) v := fun F ms v i => by
  obtain ⟨a, n, vs, rfl, h1, e1, l⟩ := i.seq_inv
  obtain ⟨u, rfl⟩ : ∃ u, vs = [u] := by
    cases vs with
    | nil => cases e1
    | cons u r => cases r with
      | nil => exact ⟨u, rfl⟩
      | cons y r => cases e1
  exact .list h1 (.cons (l 0 u rfl) .nil)
noncomputable def sgl (x z : Int) : PV := .list [signP x z]
theorem a_signs_new0 {a r : Int} : CallTo g (n + 2) 179 [.list [], .int a, .int r] [] (signsP [] a r) [] :=
  (CodeTo.new (cells := []) (by kernel_rfl) (run_all (fn_176 _) (show runP g n 176 [(Str.ofString "self"), (Str.ofString "rows"), (Str.ofString "after"), (Str.ofString "reach")] [.mob 179 0, .list [], .int a, .int r] [.dict []] [] = some (.next, [.dict [((Str.ofString "rows"), .list []), ((Str.ofString "after"), .int a), ((Str.ofString "reach"), .int r)]], []) by kernel_rfl) rfl trivial rfl (Nat.le_refl _))).call.frz
theorem a_signs_new1 {a r : Int} : CallTo g (n + 2) 179 [sgl x z, .int a, .int r] [] (signsP [signP x z] a r) [] :=
  (CodeTo.new (cells := []) (by kernel_rfl) (run_all (fn_176 _) (show runP g n 176 [(Str.ofString "self"), (Str.ofString "rows"), (Str.ofString "after"), (Str.ofString "reach")] [.mob 179 0, sgl x z, .int a, .int r] [.dict []] [] = some (.next, [.dict [((Str.ofString "rows"), sgl x z), ((Str.ofString "after"), .int a), ((Str.ofString "reach"), .int r)]], []) by kernel_rfl) rfl trivial rfl (Nat.le_refl _))).call.frz
theorem cells_233 {k : Nat} {mo : MO} (e : ([MO.novar, .var (.int z)] : List MO)[k]? = some mo) : ∃ y, [(Str.ofString "face"), (Str.ofString "place")][k]? = some y ∧ ((∃ p, (y, p) ∈ [(Str.ofString "view"), (Str.ofString "table"), (Str.ofString "place")].zip [viewP cs, tableP w, .int z] ∧ isKind (scopeOf (KK w) 233) y .cell = true ∧ mo = MO.var p) ∨ (y ∉ [(Str.ofString "view"), (Str.ofString "table"), (Str.ofString "place")] ∧ mo = MO.novar)) := by
  rcases k with _ | _ | k
  · cases e; exact ⟨_, rfl, .inr ⟨by decide +kernel, rfl⟩⟩
  · cases e; exact ⟨_, rfl, .inl ⟨_, .tail _ (.tail _ (.head _)), by kernel_rfl, rfl⟩⟩
  · exact (nil_get (i := k) e).elim
noncomputable def l233 (w : World) (cs : List Int) : List (Str × PV) := [((Str.ofString "view"), viewP cs), ((Str.ofString "table"), tableP w), ((Str.ofString "place"), .var 1), ((Str.ofString "face"), .var 0)]
theorem to_233 {r p : PV} {st1 : AS} (h : ExsG (.of g (n + 5) 233) (bodyOf (KK w) 233) ⟨l233 w cs, [.novar, .var (.int z)]⟩ (.ret p) st1) (hz : fz 9 st1.cells 0 p = r) : CallTo g (n + 6) 233 [viewP cs, tableP w, .int z] [] r [] :=
  codeTo_cells (st0 := ⟨l233 w cs, [.novar, .var (.int z)]⟩) (fn_233 w) rfl (all_cons (.inl ⟨.head _, by kernel_rfl⟩) (all_cons (.inl ⟨.tail _ (.head _), by kernel_rfl⟩) (all_cons (.inr ⟨1, rfl, rfl, by kernel_rfl⟩) (all_cons (.inr ⟨0, rfl, rfl, by kernel_rfl⟩) all_nil)))) rfl (fun k mo e => cells_233 e) h rfl hz (NCL.cons nc_view (NCL.cons nc_table (NCL.cons .int NCL.nil)))
theorem b_signs_end (hc : cs.length ≤ 100) (hz : z ≥ 1 + cs.length) : CallTo g (n + 6) 233 [viewP cs, tableP w, .int z] [] (signsP [] z (z + 1)) [] := by
  let C : List MO := [.novar, .var (.int z)]
  have run : runB (.of g (n + 5) 233) (bodyOf (KK w) 233) ⟨l233 w cs, C⟩ [.call (.list []) C, .call (.int (1 + (cs.length : Int))) C, .b true, .call (signsP [] z (z + 1)) C] = some (.ret (signsP [] z (z + 1)), ⟨l233 w cs ++ [((Str.ofString "ahead"), .list [])], C⟩,
      [CallTo g (n + 5) 216 [viewP cs, tableP w, .int z] C (.list []) C, CallTo g (n + 5) 120 [viewP cs] C (.int (1 + (cs.length : Int))) C, decide (z ≥ 1 + (cs.length : Int)) = true, CallTo g (n + 5) 179 [.list [], .int z, .int (z + 1)] C (signsP [] z (z + 1)) C]) := by kernel_rfl
  exact to_233 (runB_exs run ⟨((b_string_signs (n := n)).frame (by repeat' (first | exact NCL.nil | refine NCL.cons ?_ ?_ | exact NC.int | exact NC.bool | exact NC.sbool | exact NC.none | exact NC.any | exact NC.anyi | exact nc_view | exact nc_pane | exact nc_rowsP | exact nc_rowK | exact nc_opts | exact nc_table | exact nc_spot | assumption | refine NC.tup ?_ | refine NC.list ?_ | refine NC.inst ?_ | exact NCD.nil | refine NCD.cons ?_ ?_ | exact NC.str | exact NC.seq (fun _ => NC.int)))).le (by omega), ((a_end (n := n) hc).frame (by repeat' (first | exact NCL.nil | refine NCL.cons ?_ ?_ | exact NC.int | exact NC.bool | exact NC.sbool | exact NC.none | exact NC.any | exact NC.anyi | exact nc_view | exact nc_pane | exact nc_rowsP | exact nc_rowK | exact nc_opts | exact nc_table | exact nc_spot | assumption | refine NC.tup ?_ | refine NC.list ?_ | refine NC.inst ?_ | exact NCD.nil | refine NCD.cons ?_ ?_ | exact NC.str | exact NC.seq (fun _ => NC.int)))).le (by omega), decide_eq_true hz, ((a_signs_new0 (n := n)).frame (by repeat' (first | exact NCL.nil | refine NCL.cons ?_ ?_ | exact NC.int | exact NC.bool | exact NC.sbool | exact NC.none | exact NC.any | exact NC.anyi | exact nc_view | exact nc_pane | exact nc_rowsP | exact nc_rowK | exact nc_opts | exact nc_table | exact nc_spot | assumption | refine NC.tup ?_ | refine NC.list ?_ | refine NC.inst ?_ | exact NCD.nil | refine NCD.cons ?_ ?_ | exact NC.str | exact NC.seq (fun _ => NC.int)))).le (by omega), trivial⟩) rfl
theorem nc_sgl : NC (sgl x z) := .list (NCL.cons (.tup (NCL.cons .int (NCL.cons .int (NCL.cons .int NCL.nil)))) NCL.nil)
theorem a_code (hc : cs.length ≤ 100) (h2 : z < 1 + (cs.length : Int)) : CallTo g (n + 2) 127 [viewP cs, .int z] [] (.int (codeAt cs z)) [] := by
  by_cases h1 : 1 ≤ z
  · exact a_code_at hc h1 h2
  · exact ((run_code (k := 0) (fn_127 _) (show runP g (n + 1) 127 [(Str.ofString "self"), (Str.ofString "place")] [viewP cs, .int z] [] [.call (.int 1) [], .b false] = some (.ret (.int (-1)), [], [CallTo g (n + 1) 113 [viewP cs] [] (.int 1) [], decide (1 ≤ z) = false]) by kernel_rfl) rfl
      ⟨a_begin, by simpa using h1, trivial⟩ rfl (Nat.zero_le _) (Nat.zero_le _) rfl rfl).call).conv (int_eq (by unfold codeAt; rw [if_neg (fun q => h1 q.1)]))
theorem b_signs_in (hc : cs.length ≤ 100) (hz : z < 1 + cs.length) : CallTo g (n + 6) 233 [viewP cs, tableP w, .int z] [] (signsP [signP (codeAt cs z) z] (z + 1) (z + 1)) [] := by
  let C : List MO := [.novar, .var (.int z)]
  let D : List MO := [.var (.int 0), .var (.int z)]
  let E : List MO := [.var (.int 0), .var (.int z), .list [signP (codeAt cs z) z]]
  let st1 : AS := ⟨l233 w cs ++ [((Str.ofString "ahead"), .list []), ((Str.ofString "shown"), .none)], E⟩
  have add : OpG (.of g (n + 5) 233) (binaryOp .Add) st1 (.list []) (.cell 2) (sgl (codeAt cs z) z) st1 := fun c hc W h tk a b R i j Q kQ =>
    Op_add (c := c) (st := st1) (p := .list []) (q := .cell 2) (t1 := .li []) (t2 := .li [signP (codeAt cs z) z]) (m := 1) (h := fun _ => signP (codeAt cs z) z) rfl rfl rfl (by decide) (fun j u e => (nil_get e).elim) (fun j u e => by
      rcases j with _ | j
      · cases e; rfl
      · exact (nil_get (i := j) e).elim) W h tk a b R i j Q fun W' v h' tk' le R' iv => kQ W' v h' tk' le R' (seq1_list _ _ v iv)
  have run : runB (.of g (n + 5) 233) (bodyOf (KK w) 233) ⟨l233 w cs, C⟩ [.call (.list []) C, .call (.int (1 + (cs.length : Int))) C, .b false, .call (.int 0) C, .b false, .call .none C, .call (.tup []) C, .call (.int 0) C, .call (.int (codeAt cs z)) D, .ev (sgl (codeAt cs z) z) st1, .call (signsP [signP (codeAt cs z) z] (z + 1) (z + 1)) E] = some (.ret (signsP [signP (codeAt cs z) z] (z + 1) (z + 1)), st1,
      [CallTo g (n + 5) 216 [viewP cs, tableP w, .int z] C (.list []) C, CallTo g (n + 5) 120 [viewP cs] C (.int (1 + (cs.length : Int))) C, decide (z ≥ 1 + (cs.length : Int)) = false,
       CallTo g (n + 5) 141 [viewP cs, .int z] C (.int 0) C, ((0 : Int) != 0) = false, CallTo g (n + 5) 148 [viewP cs, .int z] C .none C, CallTo g (n + 5) 134 [viewP cs, .int z] C (.tup []) C, CallTo g (n + 5) 645 [tableP w, .tup []] C (.int 0) C,
       CallTo g (n + 5) 127 [viewP cs, .int z] D (.int (codeAt cs z)) D, OpG (.of g (n + 5) 233) (binaryOp .Add) st1 (.list []) (.cell 2) (sgl (codeAt cs z) z) st1,
       CallTo g (n + 5) 179 [sgl (codeAt cs z) z, .int (z + 1), .int (z + 1)] E (signsP [signP (codeAt cs z) z] (z + 1) (z + 1)) E]) := by kernel_rfl
  exact to_233 (runB_exs run ⟨((b_string_signs (n := n)).frame (by repeat' (first | exact NCL.nil | refine NCL.cons ?_ ?_ | exact NC.int | exact NC.bool | exact NC.sbool | exact NC.none | exact NC.any | exact NC.anyi | exact nc_view | exact nc_pane | exact nc_rowsP | exact nc_rowK | exact nc_opts | exact nc_table | exact nc_spot | assumption | refine NC.tup ?_ | refine NC.list ?_ | refine NC.inst ?_ | exact NCD.nil | refine NCD.cons ?_ ?_ | exact NC.str | exact NC.seq (fun _ => NC.int)))).le (by omega), ((a_end (n := n) hc).frame (by repeat' (first | exact NCL.nil | refine NCL.cons ?_ ?_ | exact NC.int | exact NC.bool | exact NC.sbool | exact NC.none | exact NC.any | exact NC.anyi | exact nc_view | exact nc_pane | exact nc_rowsP | exact nc_rowK | exact nc_opts | exact nc_table | exact nc_spot | assumption | refine NC.tup ?_ | refine NC.list ?_ | refine NC.inst ?_ | exact NCD.nil | refine NCD.cons ?_ ?_ | exact NC.str | exact NC.seq (fun _ => NC.int)))).le (by omega), decide_eq_false (by omega), ((a_hidden (n := n)).frame (by repeat' (first | exact NCL.nil | refine NCL.cons ?_ ?_ | exact NC.int | exact NC.bool | exact NC.sbool | exact NC.none | exact NC.any | exact NC.anyi | exact nc_view | exact nc_pane | exact nc_rowsP | exact nc_rowK | exact nc_opts | exact nc_table | exact nc_spot | assumption | refine NC.tup ?_ | refine NC.list ?_ | refine NC.inst ?_ | exact NCD.nil | refine NCD.cons ?_ ?_ | exact NC.str | exact NC.seq (fun _ => NC.int)))).le (by omega), rfl, ((a_shown_at (n := n)).frame (by repeat' (first | exact NCL.nil | refine NCL.cons ?_ ?_ | exact NC.int | exact NC.bool | exact NC.sbool | exact NC.none | exact NC.any | exact NC.anyi | exact nc_view | exact nc_pane | exact nc_rowsP | exact nc_rowK | exact nc_opts | exact nc_table | exact nc_spot | assumption | refine NC.tup ?_ | refine NC.list ?_ | refine NC.inst ?_ | exact NCD.nil | refine NCD.cons ?_ ?_ | exact NC.str | exact NC.seq (fun _ => NC.int)))).le (by omega), ((a_faces (n := n)).frame (by repeat' (first | exact NCL.nil | refine NCL.cons ?_ ?_ | exact NC.int | exact NC.bool | exact NC.sbool | exact NC.none | exact NC.any | exact NC.anyi | exact nc_view | exact nc_pane | exact nc_rowsP | exact nc_rowK | exact nc_opts | exact nc_table | exact nc_spot | assumption | refine NC.tup ?_ | refine NC.list ?_ | refine NC.inst ?_ | exact NCD.nil | refine NCD.cons ?_ ?_ | exact NC.str | exact NC.seq (fun _ => NC.int)))).le (by omega), ((a_number_of (n := n)).frame (NCL.cons nc_table (NCL.cons (.tup NCL.nil) NCL.nil))).le (by omega),
    ((a_code (n := n) hc hz).frame (by repeat' (first | exact NCL.nil | refine NCL.cons ?_ ?_ | exact NC.int | exact NC.bool | exact NC.sbool | exact NC.none | exact NC.any | exact NC.anyi | exact nc_view | exact nc_pane | exact nc_rowsP | exact nc_rowK | exact nc_opts | exact nc_table | exact nc_spot | assumption | refine NC.tup ?_ | refine NC.list ?_ | refine NC.inst ?_ | exact NCD.nil | refine NCD.cons ?_ ?_ | exact NC.str | exact NC.seq (fun _ => NC.int)))).le (by omega), add, ((a_signs_new1 (n := n)).frame (NCL.cons nc_sgl (NCL.cons .int (NCL.cons .int NCL.nil)))).le (by omega), trivial⟩) rfl
end

end
noncomputable section
/-! the walk over the view -/
noncomputable def walkD (w : World) (cs : List Int) (z k : Int) (h : PV) (r : Int) : List (Str × PV) := [((Str.ofString "view"), viewP cs), ((Str.ofString "table"), tableP w), ((Str.ofString "place"), .int z), ((Str.ofString "number"), .int k), ((Str.ofString "here"), h), ((Str.ofString "reach"), .int r)]
noncomputable def sgIn (cs : List Int) (z : Int) : PV := signsP [signP (codeAt cs z) z] (z + 1) (z + 1)
noncomputable def sgOut (z : Int) : PV := signsP [] z (z + 1)
section
variable {w : World} {g : Gl w} {n : Nat} {cs : List Int} {z x r : Int}
theorem fn_247 (P : Params) : FnAt (hd.heap_39 P) 247 [(Str.ofString "self"), (Str.ofString "view"), (Str.ofString "table"), (Str.ofString "spot")] := ⟨by kernel_rfl, by kernel_rfl, by kernel_rfl, by decide +kernel, by rintro (_ | ⟨v0, _ | ⟨v1, _ | ⟨v2, _ | ⟨v3, _ | ⟨v4, vs⟩⟩⟩⟩⟩) h <;> first | (simp at h; done) | kernel_rfl⟩
theorem fn_254 (P : Params) : FnAt (hd.heap_39 P) 254 [(Str.ofString "self")] := ⟨by kernel_rfl, by kernel_rfl, by kernel_rfl, by decide +kernel, by rintro (_ | ⟨v0, _ | ⟨v1, vs⟩⟩) h <;> first | (simp at h; done) | kernel_rfl⟩
theorem fn_261 (P : Params) : FnAt (hd.heap_39 P) 261 [(Str.ofString "self")] := ⟨by kernel_rfl, by kernel_rfl, by kernel_rfl, by decide +kernel, by rintro (_ | ⟨v0, _ | ⟨v1, vs⟩⟩) h <;> first | (simp at h; done) | kernel_rfl⟩
theorem fn_268 (P : Params) : FnAt (hd.heap_39 P) 268 [(Str.ofString "self")] := ⟨by kernel_rfl, by kernel_rfl, by kernel_rfl, by decide +kernel, by rintro (_ | ⟨v0, _ | ⟨v1, vs⟩⟩) h <;> first | (simp at h; done) | kernel_rfl⟩
theorem fn_275 (P : Params) : FnAt (hd.heap_39 P) 275 [(Str.ofString "self")] := ⟨by kernel_rfl, by kernel_rfl, by kernel_rfl, by decide +kernel, by rintro (_ | ⟨v0, _ | ⟨v1, vs⟩⟩) h <;> first | (simp at h; done) | kernel_rfl⟩
theorem cls_278 (P : Params) : clsOk (hd.heap_39 P) 278 247 = true := by kernel_rfl
theorem a_walk_in (hc : cs.length ≤ 100) (hz : z < 1 + cs.length) : CallTo g (n + 9) 278 [viewP cs, tableP w, spotP z] [] (.mob 278 0) [.dict (walkD w cs z 0 (sgIn cs z) (z + 1))] :=
  (CodeTo.new (cells := []) (cls_278 _)
    (run_code (k := 1) (fn_247 _) (show runP g (n + 7) 247 [(Str.ofString "self"), (Str.ofString "view"), (Str.ofString "table"), (Str.ofString "spot")] [.mob 278 0, viewP cs, tableP w, spotP z] [.dict []] [.call (sgIn cs z) [.dict [((Str.ofString "view"), viewP cs), ((Str.ofString "table"), tableP w), ((Str.ofString "place"), .int z), ((Str.ofString "number"), .int 0)]]] = some (.next, [.dict (walkD w cs z 0 (sgIn cs z) (z + 1))], [CallTo g (n + 7) 233 [viewP cs, tableP w, .int z] [.dict [((Str.ofString "view"), viewP cs), ((Str.ofString "table"), tableP w), ((Str.ofString "place"), .int z), ((Str.ofString "number"), .int 0)]] (sgIn cs z) [.dict [((Str.ofString "view"), viewP cs), ((Str.ofString "table"), tableP w), ((Str.ofString "place"), .int z), ((Str.ofString "number"), .int 0)]]]) by kernel_rfl) rfl
    ⟨(b_signs_in (n := n + 1) hc hz).frame (by repeat' (first | exact NCL.nil | refine NCL.cons ?_ ?_ | exact NC.int | exact NC.bool | exact NC.sbool | exact NC.none | exact NC.any | exact NC.anyi | exact nc_view | exact nc_pane | exact nc_rowsP | exact nc_rowK | exact nc_opts | exact nc_table | exact nc_spot | assumption | refine NC.tup ?_ | refine NC.list ?_ | refine NC.inst ?_ | exact NCD.nil | refine NCD.cons ?_ ?_ | exact NC.str | exact NC.seq (fun _ => NC.int))), trivial⟩ rfl (Nat.le_refl _) (Nat.le_refl _) rfl rfl)).call
theorem a_walk_out (hc : cs.length ≤ 100) (hz : z ≥ 1 + cs.length) : CallTo g (n + 9) 278 [viewP cs, tableP w, spotP z] [] (.mob 278 0) [.dict (walkD w cs z 0 (sgOut z) (z + 1))] :=
  (CodeTo.new (cells := []) (cls_278 _)
    (run_code (k := 1) (fn_247 _) (show runP g (n + 7) 247 [(Str.ofString "self"), (Str.ofString "view"), (Str.ofString "table"), (Str.ofString "spot")] [.mob 278 0, viewP cs, tableP w, spotP z] [.dict []] [.call (sgOut z) [.dict [((Str.ofString "view"), viewP cs), ((Str.ofString "table"), tableP w), ((Str.ofString "place"), .int z), ((Str.ofString "number"), .int 0)]]] = some (.next, [.dict (walkD w cs z 0 (sgOut z) (z + 1))], [CallTo g (n + 7) 233 [viewP cs, tableP w, .int z] [.dict [((Str.ofString "view"), viewP cs), ((Str.ofString "table"), tableP w), ((Str.ofString "place"), .int z), ((Str.ofString "number"), .int 0)]] (sgOut z) [.dict [((Str.ofString "view"), viewP cs), ((Str.ofString "table"), tableP w), ((Str.ofString "place"), .int z), ((Str.ofString "number"), .int 0)]]]) by kernel_rfl) rfl
    ⟨(b_signs_end (n := n + 1) hc hz).frame (by repeat' (first | exact NCL.nil | refine NCL.cons ?_ ?_ | exact NC.int | exact NC.bool | exact NC.sbool | exact NC.none | exact NC.any | exact NC.anyi | exact nc_view | exact nc_pane | exact nc_rowsP | exact nc_rowK | exact nc_opts | exact nc_table | exact nc_spot | assumption | refine NC.tup ?_ | refine NC.list ?_ | refine NC.inst ?_ | exact NCD.nil | refine NCD.cons ?_ ?_ | exact NC.str | exact NC.seq (fun _ => NC.int))), trivial⟩ rfl (Nat.le_refl _) (Nat.le_refl _) rfl rfl)).call
theorem a_settle_in : CallTo g (n + 1) 254 [.mob 278 0] [.dict (walkD w cs z 0 (sgIn cs z) r)] (.bool true) [.dict (walkD w cs z 0 (sgIn cs z) r)] :=
  (run_code (k := 1) (fn_254 _) (show runP g n 254 [(Str.ofString "self")] [.mob 278 0] [.dict (walkD w cs z 0 (sgIn cs z) r)] [.b false] = some (.ret (.bool true), [.dict (walkD w cs z 0 (sgIn cs z) r)], [(1 : Nat) ≤ 1000, decide ((0 : Int) ≥ ((1 : Nat) : Int)) = false]) by kernel_rfl) rfl
    ⟨by decide, rfl, trivial⟩ rfl (Nat.le_refl _) (Nat.le_refl _) rfl rfl).call
theorem a_settle_out (hc : cs.length ≤ 100) (hz : z ≥ 1 + cs.length) : CallTo g (n + 2) 254 [.mob 278 0] [.dict (walkD w cs z 0 (sgOut z) r)] (.bool false) [.dict (walkD w cs z 0 (sgOut z) r)] :=
  (run_code (k := 1) (fn_254 _) (show runP g (n + 1) 254 [(Str.ofString "self")] [.mob 278 0] [.dict (walkD w cs z 0 (sgOut z) r)] [.b true, .call (.int (1 + (cs.length : Int))) [.dict (walkD w cs z 0 (sgOut z) r)], .b true] = some (.ret (.bool false), [.dict (walkD w cs z 0 (sgOut z) r)], [(0 : Nat) ≤ 1000, decide ((0 : Int) ≥ ((0 : Nat) : Int)) = true, CallTo g (n + 1) 120 [viewP cs] [.dict (walkD w cs z 0 (sgOut z) r)] (.int (1 + (cs.length : Int))) [.dict (walkD w cs z 0 (sgOut z) r)], decide (z ≥ 1 + (cs.length : Int)) = true]) by kernel_rfl) rfl
    ⟨by decide, rfl, (a_end hc).frame (by repeat' (first | exact NCL.nil | refine NCL.cons ?_ ?_ | exact NC.int | exact NC.bool | exact NC.sbool | exact NC.none | exact NC.any | exact NC.anyi | exact nc_view | exact nc_pane | exact nc_rowsP | exact nc_rowK | exact nc_opts | exact nc_table | exact nc_spot | assumption | refine NC.tup ?_ | refine NC.list ?_ | refine NC.inst ?_ | exact NCD.nil | refine NCD.cons ?_ ?_ | exact NC.str | exact NC.seq (fun _ => NC.int))), by simpa using hz, trivial⟩ rfl (Nat.le_refl _) (Nat.le_refl _) rfl rfl).call
/-- the cell between the steps of settle -/
noncomputable def midD (w : World) (cs : List Int) (z : Int) (r : Int) : List (Str × PV) := walkD w cs (z + 1) 0 (sgIn cs z) r
theorem a_settle_1in (hc : cs.length ≤ 100) (hz : z + 1 < 1 + cs.length) : CallTo g (n + 8) 254 [.mob 278 0] [.dict (walkD w cs z 1 (sgIn cs z) r)] (.bool true) [.dict (walkD w cs (z + 1) 0 (sgIn cs (z + 1)) (max r (z + 1 + 1)))] :=
  (run_code (k := 1) (fn_254 _) (show runP g (n + 7) 254 [(Str.ofString "self")] [.mob 278 0] [.dict (walkD w cs z 1 (sgIn cs z) r)] [.b true, .call (.int (1 + (cs.length : Int))) [.dict (walkD w cs z 1 (sgIn cs z) r)], .b false, .call (sgIn cs (z + 1)) [.dict (midD w cs z r)], .b false] = some (.ret (.bool true), [.dict (walkD w cs (z + 1) 0 (sgIn cs (z + 1)) (max r (z + 1 + 1)))], [(1 : Nat) ≤ 1000, decide ((1 : Int) ≥ ((1 : Nat) : Int)) = true, CallTo g (n + 7) 120 [viewP cs] [.dict (walkD w cs z 1 (sgIn cs z) r)] (.int (1 + (cs.length : Int))) [.dict (walkD w cs z 1 (sgIn cs z) r)], decide (z ≥ 1 + (cs.length : Int)) = false, (1 : Nat) ≤ 1000,
     CallTo g (n + 7) 233 [viewP cs, tableP w, .int (z + 1)] [.dict (midD w cs z r)] (sgIn cs (z + 1)) [.dict (midD w cs z r)], (1 : Nat) ≤ 1000, decide ((0 : Int) ≥ ((1 : Nat) : Int)) = false]) by kernel_rfl) rfl
    ⟨by decide, rfl, ((a_end hc).frame (by repeat' (first | exact NCL.nil | refine NCL.cons ?_ ?_ | exact NC.int | exact NC.bool | exact NC.sbool | exact NC.none | exact NC.any | exact NC.anyi | exact nc_view | exact nc_pane | exact nc_rowsP | exact nc_rowK | exact nc_opts | exact nc_table | exact nc_spot | assumption | refine NC.tup ?_ | refine NC.list ?_ | refine NC.inst ?_ | exact NCD.nil | refine NCD.cons ?_ ?_ | exact NC.str | exact NC.seq (fun _ => NC.int)))).le (Nat.le_add_left _ _), by simp; omega, by decide, ((b_signs_in (n := n) hc hz).frame (by repeat' (first | exact NCL.nil | refine NCL.cons ?_ ?_ | exact NC.int | exact NC.bool | exact NC.sbool | exact NC.none | exact NC.any | exact NC.anyi | exact nc_view | exact nc_pane | exact nc_rowsP | exact nc_rowK | exact nc_opts | exact nc_table | exact nc_spot | assumption | refine NC.tup ?_ | refine NC.list ?_ | refine NC.inst ?_ | exact NCD.nil | refine NCD.cons ?_ ?_ | exact NC.str | exact NC.seq (fun _ => NC.int)))).le (by omega), by decide, rfl, trivial⟩ rfl (Nat.le_refl _) (Nat.le_refl _) rfl rfl).call
theorem a_settle_1out (hc : cs.length ≤ 100) (h0 : z < 1 + (cs.length : Int)) (hz : z + 1 ≥ 1 + cs.length) : CallTo g (n + 8) 254 [.mob 278 0] [.dict (walkD w cs z 1 (sgIn cs z) r)] (.bool false) [.dict (walkD w cs (z + 1) 0 (sgOut (z + 1)) (max r (z + 1 + 1)))] :=
  (run_code (k := 1) (fn_254 _) (show runP g (n + 7) 254 [(Str.ofString "self")] [.mob 278 0] [.dict (walkD w cs z 1 (sgIn cs z) r)] [.b true, .call (.int (1 + (cs.length : Int))) [.dict (walkD w cs z 1 (sgIn cs z) r)], .b false, .call (sgOut (z + 1)) [.dict (midD w cs z r)], .b true, .call (.int (1 + (cs.length : Int))) [.dict (walkD w cs (z + 1) 0 (sgOut (z + 1)) (max r (z + 1 + 1)))], .b true] = some (.ret (.bool false), [.dict (walkD w cs (z + 1) 0 (sgOut (z + 1)) (max r (z + 1 + 1)))], [(1 : Nat) ≤ 1000, decide ((1 : Int) ≥ ((1 : Nat) : Int)) = true, CallTo g (n + 7) 120 [viewP cs] [.dict (walkD w cs z 1 (sgIn cs z) r)] (.int (1 + (cs.length : Int))) [.dict (walkD w cs z 1 (sgIn cs z) r)], decide (z ≥ 1 + (cs.length : Int)) = false, (1 : Nat) ≤ 1000,
     CallTo g (n + 7) 233 [viewP cs, tableP w, .int (z + 1)] [.dict (midD w cs z r)] (sgOut (z + 1)) [.dict (midD w cs z r)], (0 : Nat) ≤ 1000, decide ((0 : Int) ≥ ((0 : Nat) : Int)) = true,
     CallTo g (n + 7) 120 [viewP cs] [.dict (walkD w cs (z + 1) 0 (sgOut (z + 1)) (max r (z + 1 + 1)))] (.int (1 + (cs.length : Int))) [.dict (walkD w cs (z + 1) 0 (sgOut (z + 1)) (max r (z + 1 + 1)))], decide (z + 1 ≥ 1 + (cs.length : Int)) = true]) by kernel_rfl) rfl
    ⟨by decide, rfl, ((a_end hc).frame (by repeat' (first | exact NCL.nil | refine NCL.cons ?_ ?_ | exact NC.int | exact NC.bool | exact NC.sbool | exact NC.none | exact NC.any | exact NC.anyi | exact nc_view | exact nc_pane | exact nc_rowsP | exact nc_rowK | exact nc_opts | exact nc_table | exact nc_spot | assumption | refine NC.tup ?_ | refine NC.list ?_ | refine NC.inst ?_ | exact NCD.nil | refine NCD.cons ?_ ?_ | exact NC.str | exact NC.seq (fun _ => NC.int)))).le (Nat.le_add_left _ _), by simp; omega, by decide, ((b_signs_end (n := n) hc hz).frame (by repeat' (first | exact NCL.nil | refine NCL.cons ?_ ?_ | exact NC.int | exact NC.bool | exact NC.sbool | exact NC.none | exact NC.any | exact NC.anyi | exact nc_view | exact nc_pane | exact nc_rowsP | exact nc_rowK | exact nc_opts | exact nc_table | exact nc_spot | assumption | refine NC.tup ?_ | refine NC.list ?_ | refine NC.inst ?_ | exact NCD.nil | refine NCD.cons ?_ ?_ | exact NC.str | exact NC.seq (fun _ => NC.int)))).le (by omega), by decide, rfl, ((a_end hc).frame (by repeat' (first | exact NCL.nil | refine NCL.cons ?_ ?_ | exact NC.int | exact NC.bool | exact NC.sbool | exact NC.none | exact NC.any | exact NC.anyi | exact nc_view | exact nc_pane | exact nc_rowsP | exact nc_rowK | exact nc_opts | exact nc_table | exact nc_spot | assumption | refine NC.tup ?_ | refine NC.list ?_ | refine NC.inst ?_ | exact NCD.nil | refine NCD.cons ?_ ?_ | exact NC.str | exact NC.seq (fun _ => NC.int)))).le (Nat.le_add_left _ _), by simp; omega, trivial⟩ rfl (Nat.le_refl _) (Nat.le_refl _) rfl rfl).call
/-! sign: what stands at the walk's place -/
theorem a_sign_in : CallTo g (n + 2) 261 [.mob 278 0] [.dict (walkD w cs z 0 (sgIn cs z) r)] (signP (codeAt cs z) z) [.dict (walkD w cs z 0 (sgIn cs z) r)] :=
  (run_code (k := 1) (fn_261 _) (show runP g (n + 1) 261 [(Str.ofString "self")] [.mob 278 0] [.dict (walkD w cs z 0 (sgIn cs z) r)] [.call (.bool true) [.dict (walkD w cs z 0 (sgIn cs z) r)]] = some (.ret (signP (codeAt cs z) z), [.dict (walkD w cs z 0 (sgIn cs z) r)], [CallTo g (n + 1) 254 [.mob 278 0] [.dict (walkD w cs z 0 (sgIn cs z) r)] (.bool true) [.dict (walkD w cs z 0 (sgIn cs z) r)]]) by kernel_rfl) rfl ⟨a_settle_in, trivial⟩ rfl (Nat.le_refl _) (Nat.le_refl _) rfl rfl).call
theorem a_sign_out (hc : cs.length ≤ 100) (hz : z ≥ 1 + cs.length) : CallTo g (n + 3) 261 [.mob 278 0] [.dict (walkD w cs z 0 (sgOut z) r)] .none [.dict (walkD w cs z 0 (sgOut z) r)] :=
  (run_code (k := 1) (fn_261 _) (show runP g (n + 2) 261 [(Str.ofString "self")] [.mob 278 0] [.dict (walkD w cs z 0 (sgOut z) r)] [.call (.bool false) [.dict (walkD w cs z 0 (sgOut z) r)]] = some (.ret .none, [.dict (walkD w cs z 0 (sgOut z) r)], [CallTo g (n + 2) 254 [.mob 278 0] [.dict (walkD w cs z 0 (sgOut z) r)] (.bool false) [.dict (walkD w cs z 0 (sgOut z) r)]]) by kernel_rfl) rfl ⟨a_settle_out hc hz, trivial⟩ rfl (Nat.le_refl _) (Nat.le_refl _) rfl rfl).call
theorem a_sign_1in (hc : cs.length ≤ 100) (hz : z + 1 < 1 + cs.length) : CallTo g (n + 9) 261 [.mob 278 0] [.dict (walkD w cs z 1 (sgIn cs z) r)] (signP (codeAt cs (z + 1)) (z + 1)) [.dict (walkD w cs (z + 1) 0 (sgIn cs (z + 1)) (max r (z + 1 + 1)))] :=
  (run_code (k := 1) (fn_261 _) (show runP g (n + 8) 261 [(Str.ofString "self")] [.mob 278 0] [.dict (walkD w cs z 1 (sgIn cs z) r)] [.call (.bool true) [.dict (walkD w cs (z + 1) 0 (sgIn cs (z + 1)) (max r (z + 1 + 1)))]] = some (.ret (signP (codeAt cs (z + 1)) (z + 1)), [.dict (walkD w cs (z + 1) 0 (sgIn cs (z + 1)) (max r (z + 1 + 1)))], [CallTo g (n + 8) 254 [.mob 278 0] [.dict (walkD w cs z 1 (sgIn cs z) r)] (.bool true) [.dict (walkD w cs (z + 1) 0 (sgIn cs (z + 1)) (max r (z + 1 + 1)))]]) by kernel_rfl) rfl ⟨a_settle_1in hc hz, trivial⟩ rfl (Nat.le_refl _) (Nat.le_refl _) rfl rfl).call
theorem a_sign_1out (hc : cs.length ≤ 100) (h0 : z < 1 + (cs.length : Int)) (hz : z + 1 ≥ 1 + cs.length) : CallTo g (n + 9) 261 [.mob 278 0] [.dict (walkD w cs z 1 (sgIn cs z) r)] .none [.dict (walkD w cs (z + 1) 0 (sgOut (z + 1)) (max r (z + 1 + 1)))] :=
  (run_code (k := 1) (fn_261 _) (show runP g (n + 8) 261 [(Str.ofString "self")] [.mob 278 0] [.dict (walkD w cs z 1 (sgIn cs z) r)] [.call (.bool false) [.dict (walkD w cs (z + 1) 0 (sgOut (z + 1)) (max r (z + 1 + 1)))]] = some (.ret .none, [.dict (walkD w cs (z + 1) 0 (sgOut (z + 1)) (max r (z + 1 + 1)))], [CallTo g (n + 8) 254 [.mob 278 0] [.dict (walkD w cs z 1 (sgIn cs z) r)] (.bool false) [.dict (walkD w cs (z + 1) 0 (sgOut (z + 1)) (max r (z + 1 + 1)))]]) by kernel_rfl) rfl ⟨a_settle_1out hc h0 hz, trivial⟩ rfl (Nat.le_refl _) (Nat.le_refl _) rfl rfl).call
theorem a_step : CallTo g (n + 1) 268 [.mob 278 0] [.dict (walkD w cs z 0 (sgIn cs z) r)] .none [.dict (walkD w cs z 1 (sgIn cs z) r)] :=
  (run_code (k := 1) (fn_268 _) (show runP g n 268 [(Str.ofString "self")] [.mob 278 0] [.dict (walkD w cs z 0 (sgIn cs z) r)] [] = some (.next, [.dict (walkD w cs z 1 (sgIn cs z) r)], []) by kernel_rfl) rfl trivial rfl (Nat.le_refl _) (Nat.le_refl _) rfl rfl).call
/-! spot -/
theorem a_spot_in : CallTo g (n + 2) 275 [.mob 278 0] [.dict (walkD w cs z 0 (sgIn cs z) r)] (spotP z) [.dict (walkD w cs z 0 (sgIn cs z) r)] :=
  (run_code (k := 1) (fn_275 _) (show runP g (n + 1) 275 [(Str.ofString "self")] [.mob 278 0] [.dict (walkD w cs z 0 (sgIn cs z) r)] [.call (.bool true) [.dict (walkD w cs z 0 (sgIn cs z) r)]] = some (.ret (spotP z), [.dict (walkD w cs z 0 (sgIn cs z) r)], [CallTo g (n + 1) 254 [.mob 278 0] [.dict (walkD w cs z 0 (sgIn cs z) r)] (.bool true) [.dict (walkD w cs z 0 (sgIn cs z) r)]]) by kernel_rfl) rfl ⟨a_settle_in, trivial⟩ rfl (Nat.le_refl _) (Nat.le_refl _) rfl rfl).call
theorem a_spot_out (hc : cs.length ≤ 100) (hz : z ≥ 1 + cs.length) : CallTo g (n + 3) 275 [.mob 278 0] [.dict (walkD w cs z 0 (sgOut z) r)] (spotP z) [.dict (walkD w cs z 0 (sgOut z) r)] :=
  (run_code (k := 1) (fn_275 _) (show runP g (n + 2) 275 [(Str.ofString "self")] [.mob 278 0] [.dict (walkD w cs z 0 (sgOut z) r)] [.call (.bool false) [.dict (walkD w cs z 0 (sgOut z) r)]] = some (.ret (spotP z), [.dict (walkD w cs z 0 (sgOut z) r)], [CallTo g (n + 2) 254 [.mob 278 0] [.dict (walkD w cs z 0 (sgOut z) r)] (.bool false) [.dict (walkD w cs z 0 (sgOut z) r)]]) by kernel_rfl) rfl ⟨a_settle_out hc hz, trivial⟩ rfl (Nat.le_refl _) (Nat.le_refl _) rfl rfl).call
theorem a_spot_1in (hc : cs.length ≤ 100) (hz : z + 1 < 1 + cs.length) : CallTo g (n + 9) 275 [.mob 278 0] [.dict (walkD w cs z 1 (sgIn cs z) r)] (spotP (z + 1)) [.dict (walkD w cs (z + 1) 0 (sgIn cs (z + 1)) (max r (z + 1 + 1)))] :=
  (run_code (k := 1) (fn_275 _) (show runP g (n + 8) 275 [(Str.ofString "self")] [.mob 278 0] [.dict (walkD w cs z 1 (sgIn cs z) r)] [.call (.bool true) [.dict (walkD w cs (z + 1) 0 (sgIn cs (z + 1)) (max r (z + 1 + 1)))]] = some (.ret (spotP (z + 1)), [.dict (walkD w cs (z + 1) 0 (sgIn cs (z + 1)) (max r (z + 1 + 1)))], [CallTo g (n + 8) 254 [.mob 278 0] [.dict (walkD w cs z 1 (sgIn cs z) r)] (.bool true) [.dict (walkD w cs (z + 1) 0 (sgIn cs (z + 1)) (max r (z + 1 + 1)))]]) by kernel_rfl) rfl ⟨a_settle_1in hc hz, trivial⟩ rfl (Nat.le_refl _) (Nat.le_refl _) rfl rfl).call
theorem a_spot_1out (hc : cs.length ≤ 100) (h0 : z < 1 + (cs.length : Int)) (hz : z + 1 ≥ 1 + cs.length) : CallTo g (n + 9) 275 [.mob 278 0] [.dict (walkD w cs z 1 (sgIn cs z) r)] (spotP (z + 1)) [.dict (walkD w cs (z + 1) 0 (sgOut (z + 1)) (max r (z + 1 + 1)))] :=
  (run_code (k := 1) (fn_275 _) (show runP g (n + 8) 275 [(Str.ofString "self")] [.mob 278 0] [.dict (walkD w cs z 1 (sgIn cs z) r)] [.call (.bool false) [.dict (walkD w cs (z + 1) 0 (sgOut (z + 1)) (max r (z + 1 + 1)))]] = some (.ret (spotP (z + 1)), [.dict (walkD w cs (z + 1) 0 (sgOut (z + 1)) (max r (z + 1 + 1)))], [CallTo g (n + 8) 254 [.mob 278 0] [.dict (walkD w cs z 1 (sgIn cs z) r)] (.bool false) [.dict (walkD w cs (z + 1) 0 (sgOut (z + 1)) (max r (z + 1 + 1)))]]) by kernel_rfl) rfl ⟨a_settle_1out hc h0 hz, trivial⟩ rfl (Nat.le_refl _) (Nat.le_refl _) rfl rfl).call
end

end
noncomputable section
/-! a row in the making: cells walk 0, row 1, glyphs 2 -/
noncomputable def rowD (st c en nc gl : PV) (le bk ed : Bool) (r : Int) : List (Str × PV) :=
  [((Str.ofString "start"), st), ((Str.ofString "column"), c), ((Str.ofString "end"), en), ((Str.ofString "next_column"), nc), ((Str.ofString "glyphs"), gl), ((Str.ofString "is_line_end"), .bool le), ((Str.ofString "is_break"), .bool bk), ((Str.ofString "is_end"), .bool ed), ((Str.ofString "mark"), .int 32), ((Str.ofString "reach"), .int r)]
/-- glyph j of a row from z -/
noncomputable def glyP (z : Int) (j : Nat) : PV := .tup [.int 97, .int 0, .int (z + j)]
theorem nc_walk {w : World} {cs : List Int} {z k r : Int} {h : PV} (n : NC h) : NCD (walkD w cs z k h r) := .cons nc_view (.cons nc_table (.cons .int (.cons .int (.cons n (.cons .int .nil)))))
theorem nc_signs {l : List PV} {a r : Int} (n : NCL l) : NC (signsP l a r) := .inst (NCD.cons (.list n) (NCD.cons .int (NCD.cons .int NCD.nil)))
theorem nc_sign {x z : Int} : NC (signP x z) := .tup (NCL.cons .int (NCL.cons .int (NCL.cons .int NCL.nil)))
theorem nc_in {cs : List Int} {z : Int} : NC (sgIn cs z) := nc_signs (.cons nc_sign .nil)
theorem nc_out {z : Int} : NC (sgOut z) := nc_signs .nil
section
variable {w : World} {g : Gl w} {n : Nat} {cs : List Int} {z x r k k' r' r0 z' q : Int} {h h' : PV} {st en c c' nc0 : PV} {gl : MO} {le bk ed : Bool}
theorem fn_296 (P : Params) : FnAt (hd.heap_39 P) 296 [(Str.ofString "self"), (Str.ofString "start"), (Str.ofString "column")] := ⟨by kernel_rfl, by kernel_rfl, by kernel_rfl, by decide +kernel, by rintro (_ | ⟨v0, _ | ⟨v1, _ | ⟨v2, _ | ⟨v3, vs⟩⟩⟩⟩) h <;> first | (simp at h; done) | kernel_rfl⟩
theorem fn_303 (P : Params) : FnAt (hd.heap_39 P) 303 [(Str.ofString "self"), (Str.ofString "walk"), (Str.ofString "column")] := ⟨by kernel_rfl, by kernel_rfl, by kernel_rfl, by decide +kernel, by rintro (_ | ⟨v0, _ | ⟨v1, _ | ⟨v2, _ | ⟨v3, vs⟩⟩⟩⟩) h <;> first | (simp at h; done) | kernel_rfl⟩
theorem fn_324 (P : Params) : FnAt (hd.heap_39 P) 324 [(Str.ofString "row"), (Str.ofString "sign"), (Str.ofString "codes")] := ⟨by kernel_rfl, by kernel_rfl, by kernel_rfl, by decide +kernel, by rintro (_ | ⟨v0, _ | ⟨v1, _ | ⟨v2, _ | ⟨v3, vs⟩⟩⟩⟩) h <;> first | (simp at h; done) | kernel_rfl⟩
theorem fn_331 (P : Params) : FnAt (hd.heap_39 P) 331 [(Str.ofString "row"), (Str.ofString "walk"), (Str.ofString "sign"), (Str.ofString "column")] := ⟨by kernel_rfl, by kernel_rfl, by kernel_rfl, by decide +kernel, by rintro (_ | ⟨v0, _ | ⟨v1, _ | ⟨v2, _ | ⟨v3, _ | ⟨v4, vs⟩⟩⟩⟩⟩) h <;> first | (simp at h; done) | kernel_rfl⟩
theorem cls_313 (P : Params) : clsOk (hd.heap_39 P) 313 296 = true := by kernel_rfl
theorem a_row {wk : MO} : CallTo g (n + 2) 313 [spotP z, c] [wk] (.mob 313 1) [wk, .dict (rowD (spotP z) c (spotP z) c (.cell 2) false false false z), .list []] :=
  (CodeTo.new (cells := [wk]) (cls_313 _)
    (run_all (fn_296 _) (show runP g n 296 [(Str.ofString "self"), (Str.ofString "start"), (Str.ofString "column")] [.mob 313 1, spotP z, c] [wk, .dict []] [] = some (.next, [wk, .dict (rowD (spotP z) c (spotP z) c (.cell 2) false false false z), .list []], []) by kernel_rfl) rfl trivial rfl (by simp))).call
/-- stop, where the walk's spot is q -/
theorem a_stop (hs : CallTo g n 275 [.mob 278 0] [.dict (walkD w cs z k h r), .dict (rowD st c en nc0 (.cell 2) le bk ed r0), gl] (spotP q) [.dict (walkD w cs z' k' h' r'), .dict (rowD st c en nc0 (.cell 2) le bk ed r0), gl]) :
    CallTo g (n + 1) 303 [.mob 313 1, .mob 278 0, c'] [.dict (walkD w cs z k h r), .dict (rowD st c en nc0 (.cell 2) le bk ed r0), gl] .none [.dict (walkD w cs z' k' h' r'), .dict (rowD st c (spotP q) c' (.cell 2) le bk ed (max r0 r')), gl] :=
  (run_all (fn_303 _) (show runP g n 303 [(Str.ofString "self"), (Str.ofString "walk"), (Str.ofString "column")] [.mob 313 1, .mob 278 0, c'] [.dict (walkD w cs z k h r), .dict (rowD st c en nc0 (.cell 2) le bk ed r0), gl] [.call (spotP q) [.dict (walkD w cs z' k' h' r'), .dict (rowD st c en nc0 (.cell 2) le bk ed r0), gl]]
    = some (.next, [.dict (walkD w cs z' k' h' r'), .dict (rowD st c (spotP q) c' (.cell 2) le bk ed (max r0 r')), gl], [CallTo g n 275 [.mob 278 0] [.dict (walkD w cs z k h r), .dict (rowD st c en nc0 (.cell 2) le bk ed r0), gl] (spotP q) [.dict (walkD w cs z' k' h' r'), .dict (rowD st c en nc0 (.cell 2) le bk ed r0), gl]]) by kernel_rfl)
    rfl ⟨hs, trivial⟩ rfl (by simp)).call
/-- end_of_line at the text's end -/
theorem a_eol_end (hc : cs.length ≤ 100) (hz : z ≥ 1 + cs.length) : CallTo g (n + 5) 331 [.mob 313 1, .mob 278 0, .none, c'] [.dict (walkD w cs z 0 (sgOut z) r), .dict (rowD st c en nc0 (.cell 2) false false false r0), gl] .none
    [.dict (walkD w cs z 0 (sgOut z) r), .dict (rowD st c (spotP z) c' (.cell 2) false false true (max r0 r)), gl] :=
  (run_all (fn_331 _) (show runP g (n + 4) 331 [(Str.ofString "row"), (Str.ofString "walk"), (Str.ofString "sign"), (Str.ofString "column")] [.mob 313 1, .mob 278 0, .none, c'] [.dict (walkD w cs z 0 (sgOut z) r), .dict (rowD st c en nc0 (.cell 2) false false false r0), gl]
      [.call .none [.dict (walkD w cs z 0 (sgOut z) r), .dict (rowD st c (spotP z) c' (.cell 2) false false true (max r0 r)), gl]]
    = some (.next, [.dict (walkD w cs z 0 (sgOut z) r), .dict (rowD st c (spotP z) c' (.cell 2) false false true (max r0 r)), gl],
      [CallTo g (n + 4) 303 [.mob 313 1, .mob 278 0, c'] [.dict (walkD w cs z 0 (sgOut z) r), .dict (rowD st c en nc0 (.cell 2) false false true r0), gl] .none [.dict (walkD w cs z 0 (sgOut z) r), .dict (rowD st c (spotP z) c' (.cell 2) false false true (max r0 r)), gl]]) by kernel_rfl)
    rfl ⟨a_stop ((a_spot_out (n := n) hc hz).sub1 rfl (nc_walk nc_out) (nc_walk nc_out) nc_spot NCL.nil rfl), trivial⟩ rfl (by simp)).call
/-- end_of_line at a newline -/
theorem a_eol_nl (hc : cs.length ≤ 100) (h1 : 1 ≤ z) (h0 : z < 1 + cs.length) (hnl : codeAt cs z = 10)
    (hs : CallTo g (n + 9) 275 [.mob 278 0] [.dict (walkD w cs z 1 (sgIn cs z) r)] (spotP (z + 1)) [.dict (walkD w cs (z + 1) 0 h' (max r (z + 1 + 1)))]) (nh : NC h') :
    CallTo g (n + 11) 331 [.mob 313 1, .mob 278 0, signP 10 z, c'] [.dict (walkD w cs z 0 (sgIn cs z) r), .dict (rowD st c en nc0 (.cell 2) false false false r0), gl] .none
    [.dict (walkD w cs (z + 1) 0 h' (max r (z + 1 + 1))), .dict (rowD st c (spotP (z + 1)) (.int 0) (.cell 2) true true false (max r0 (max r (z + 1 + 1)))), gl] :=
  (run_all (fn_331 _) (show runP g (n + 10) 331 [(Str.ofString "row"), (Str.ofString "walk"), (Str.ofString "sign"), (Str.ofString "column")] [.mob 313 1, .mob 278 0, signP 10 z, c'] [.dict (walkD w cs z 0 (sgIn cs z) r), .dict (rowD st c en nc0 (.cell 2) false false false r0), gl]
      [.call .none [.dict (walkD w cs z 1 (sgIn cs z) r), .dict (rowD st c en nc0 (.cell 2) false false false r0), gl], .b true, .call (.bool true) [.dict (walkD w cs z 1 (sgIn cs z) r), .dict (rowD st c en nc0 (.cell 2) true false false r0), gl],
       .call .none [.dict (walkD w cs (z + 1) 0 h' (max r (z + 1 + 1))), .dict (rowD st c (spotP (z + 1)) (.int 0) (.cell 2) true true false (max r0 (max r (z + 1 + 1)))), gl]]
    = some (.next, [.dict (walkD w cs (z + 1) 0 h' (max r (z + 1 + 1))), .dict (rowD st c (spotP (z + 1)) (.int 0) (.cell 2) true true false (max r0 (max r (z + 1 + 1)))), gl],
      [CallTo g (n + 10) 268 [.mob 278 0] [.dict (walkD w cs z 0 (sgIn cs z) r), .dict (rowD st c en nc0 (.cell 2) false false false r0), gl] .none [.dict (walkD w cs z 1 (sgIn cs z) r), .dict (rowD st c en nc0 (.cell 2) false false false r0), gl],
       (z != (-1)) = true, CallTo g (n + 10) 190 [viewP cs, .int z] [.dict (walkD w cs z 1 (sgIn cs z) r), .dict (rowD st c en nc0 (.cell 2) true false false r0), gl] (.bool true) [.dict (walkD w cs z 1 (sgIn cs z) r), .dict (rowD st c en nc0 (.cell 2) true false false r0), gl],
       CallTo g (n + 10) 303 [.mob 313 1, .mob 278 0, .int 0] [.dict (walkD w cs z 1 (sgIn cs z) r), .dict (rowD st c en nc0 (.cell 2) true true false r0), gl] .none [.dict (walkD w cs (z + 1) 0 h' (max r (z + 1 + 1))), .dict (rowD st c (spotP (z + 1)) (.int 0) (.cell 2) true true false (max r0 (max r (z + 1 + 1)))), gl]]) by kernel_rfl)
    rfl ⟨(a_step.sub1 rfl (nc_walk nc_in) (nc_walk nc_in) .none NCL.nil rfl).le (Nat.le_add_left _ _), by simp; omega, (((a_is_break (n := n + 7) hc h1 h0).conv (fun F ms v i => by rw [hnl] at i; exact i)).frame (by repeat' (first | exact NCL.nil | refine NCL.cons ?_ ?_ | exact NC.int | exact NC.bool | exact NC.sbool | exact NC.none | exact NC.any | exact NC.anyi | exact nc_view | exact nc_pane | exact nc_rowsP | exact nc_rowK | exact nc_opts | exact nc_table | exact nc_spot | assumption | refine NC.tup ?_ | refine NC.list ?_ | refine NC.inst ?_ | exact NCD.nil | refine NCD.cons ?_ ?_ | exact NC.str | exact NC.seq (fun _ => NC.int)))), a_stop (hs.sub1 rfl (nc_walk nc_in) (nc_walk nh) nc_spot NCL.nil rfl), trivial⟩ rfl (by simp)).call
theorem NCD.nb {k : Nat} {fs : List (Str × PV)} (h : NCD fs) : ∀ y ∈ fs, NB k y.2 := fun y hy => (h y hy).up (Nat.zero_le _)
noncomputable abbrev for324 (w : World) : Stmt := stAt (KK w) 324 0
noncomputable def putS (x z : Int) (wk : List (Str × PV)) (rd : List (Str × PV)) (f : Nat → PV) (k i : Nat) : AS := match i with
  | 0 => ⟨[((Str.ofString "row"), .mob 313 1), ((Str.ofString "sign"), signP x z), ((Str.ofString "codes"), .list [.int 97])], [.dict wk, .dict rd, .seq k f]⟩
  | _ + 1 => ⟨[((Str.ofString "row"), .mob 313 1), ((Str.ofString "sign"), signP x z), ((Str.ofString "codes"), .list [.int 97]), ((Str.ofString "code"), .int 97)], [.dict wk, .dict rd, .seq (k + 1) f]⟩
theorem a_put {f : Nat → PV} {j : Nat} {wk : List (Str × PV)} (hf : f j = .tup [.int 97, .int 0, .int z]) (hj : j ≤ 1000) (nf : ∀ i, NC (f i)) (nw : NCD wk) (nst : NC st) (nen : NC en) (ncc : NC c) (nnc : NC nc0) :
    CallTo g (n + 1) 324 [.mob 313 1, signP x z, .list [.int 97]] [.dict wk, .dict (rowD st c en nc0 (.cell 2) le bk ed r0), .seq j f] .none [.dict wk, .dict (rowD st c en nc0 (.cell 2) le bk ed r0), .seq (j + 1) f] := by
  have z3 : ∀ {p}, NC p → NB 3 p := fun h => h.up (Nat.zero_le _)
  have nr : ∀ y ∈ rowD st c en nc0 (.cell 2) le bk ed r0, NB 3 y.2 := all_cons (z3 nst) (all_cons (z3 ncc) (all_cons (z3 nen) (all_cons (z3 nnc) (all_cons (.cell (by decide)) (all_cons .bool (all_cons .bool (all_cons .bool (all_cons .int (all_cons .int all_nil)))))))))
  have nl : ∀ y ∈ (putS x z wk (rowD st c en nc0 (.cell 2) le bk ed r0) f j 0).loc, NB 3 y.2 := all_cons (.mob (by decide)) (all_cons (z3 nc_sign) (all_cons (.list (all_cons .int all_nil)) all_nil))
  refine (run_all (fn_324 _) (show runP g n 324 [(Str.ofString "row"), (Str.ofString "sign"), (Str.ofString "codes")] [.mob 313 1, signP x z, .list [.int 97]] [.dict wk, .dict (rowD st c en nc0 (.cell 2) le bk ed r0), .seq j f] [.st .next (putS x z wk (rowD st c en nc0 (.cell 2) le bk ed r0) f j 1)] = some (.next, (putS x z wk (rowD st c en nc0 (.cell 2) le bk ed r0) f j 1).cells, [Ex1G (.of g n 324) (for324 w) (putS x z wk (rowD st c en nc0 (.cell 2) le bk ed r0) f j 0) .next (putS x z wk (rowD st c en nc0 (.cell 2) le bk ed r0) f j 1)]) by kernel_rfl) rfl ⟨?_, trivial⟩ rfl (Nat.le_refl _)).call
  refine Ex1G_for (nm := (Str.ofString "code")) (by kernel_rfl) (runE_ev (o := []) (ps := []) (p := .list [.int 97]) (by kernel_rfl) trivial) rfl (by kernel_rfl) (S := putS x z wk (rowD st c en nc0 (.cell 2) le bk ed r0) f j) (stop := 1) (fun c W h m cs R => R) fun c' hc =>
    ⟨fun i hi => ?_, fun i hi => ?_, fun i q os ho hi hq => ?_, .inl ⟨rfl, rfl, rfl⟩⟩
  · rcases i with _ | _ | i
    · exact ⟨nl, all_cons (.dict nw.nb) (all_cons (.dict nr) (all_cons (.seq fun i => z3 (nf i)) all_nil))⟩
    · exact ⟨all_cons (.mob (show (1 : Nat) < 3 by decide)) (all_cons (z3 nc_sign) (all_cons (.list (all_cons .int all_nil)) (all_cons .int all_nil))), all_cons (.dict nw.nb) (all_cons (.dict nr) (all_cons (.seq fun i => z3 (nf i)) all_nil))⟩
    · omega
  · rcases i with _ | i
    · rfl
    · omega
  · rcases i with _ | i
    · rcases os with _ | ⟨o, _ | ⟨o2, os⟩⟩
      · cases ho.1
      · cases hq
        exact runB_exs (o := []) (show runB (.of g n 324) (whB (for324 w)) ⟨[((Str.ofString "row"), .mob 313 1), ((Str.ofString "sign"), signP x z), ((Str.ofString "codes"), .list [.int 97]), ((Str.ofString "code"), .int 97)], [.dict wk, .dict (rowD st c en nc0 (.cell 2) le bk ed r0), .seq j f, o]⟩ [] = some (.next, ⟨[((Str.ofString "row"), .mob 313 1), ((Str.ofString "sign"), signP x z), ((Str.ofString "codes"), .list [.int 97]), ((Str.ofString "code"), .int 97)], [.dict wk, .dict (rowD st c en nc0 (.cell 2) le bk ed r0), .seq (j + 1) f, o]⟩, [f j = .tup [.int 97, .int 0, .int z] ∧ j ≤ 1000]) by kernel_rfl) ⟨⟨hf, hj⟩, trivial⟩ c' hc
      · cases ho.1
    · omega
end

end
noncomputable section
section
variable {w : World} {g : Gl w} {n : Nat} {cs : List Int} {P q z r : Int} {d : Nat} {bk : Bool}
theorem fn_345 (P : Params) : FnAt (hd.heap_39 P) 345 [(Str.ofString "view"), (Str.ofString "table"), (Str.ofString "spot"), (Str.ofString "column"), (Str.ofString "width"), (Str.ofString "options")] := ⟨by kernel_rfl, by kernel_rfl, by kernel_rfl, by decide +kernel, by rintro (_ | ⟨v0, _ | ⟨v1, _ | ⟨v2, _ | ⟨v3, _ | ⟨v4, _ | ⟨v5, _ | ⟨v6, vs⟩⟩⟩⟩⟩⟩⟩) h <;> first | (simp at h; done) | kernel_rfl⟩
noncomputable def foL0 (w : World) (cs : List Int) (P : Int) : List (Str × PV) := [((Str.ofString "view"), viewP cs), ((Str.ofString "table"), tableP w), ((Str.ofString "spot"), spotP P), ((Str.ofString "column"), .anyi), ((Str.ofString "width"), .int 12), ((Str.ofString "options"), optsP), ((Str.ofString "last_break"), .none), ((Str.ofString "room"), .int (12 - 1)), ((Str.ofString "walk"), .mob 278 0), ((Str.ofString "row"), .mob 313 1)]
noncomputable def foL1 (w : World) (cs : List Int) (P : Int) (s : PV) : List (Str × PV) := foL0 w cs P ++ [((Str.ofString "sign"), s), ((Str.ofString "codes"), .list [.int 97])]
noncomputable def foR (P : Int) : List (Str × PV) := rowD (spotP P) .anyi (spotP P) .anyi (.cell 2) false false false P
/-- before any letter -/
noncomputable def fo0 (w : World) (cs : List Int) (P : Int) (h : PV) (r : Int) : AS := ⟨foL0 w cs P, [.dict (walkD w cs P 0 h r), .dict (foR P), .seq 0 (glyP P)]⟩
/-- behind k letters: the walk stands at z, stepped on -/
noncomputable def fo1 (w : World) (cs : List Int) (P z : Int) (k : Nat) (r : Int) : AS := ⟨foL1 w cs P (signP 97 z), [.dict (walkD w cs z 1 (sgIn cs z) r), .dict (foR P), .seq k (glyP P)]⟩
noncomputable abbrev whl345 (w : World) : Stmt := stAt (KK w) 345 2
theorem tst345 {st : AS} : TsG (.of g n 345) (whT (whl345 w)) st true st := runT_ts (o := []) (ps := []) (by kernel_rfl) trivial
theorem fo_turn0 (h97 : codeAt cs P = 97) :
    ExsG (.of g (n + 12) 345) (whB (whl345 w)) (fo0 w cs P (sgIn cs P) r) .next (fo1 w cs P P 1 r) := by
  refine runB_exs (o := [.call (signP 97 P) (fo0 w cs P (sgIn cs P) r).cells, .b false, .call (.list [.int 97]) (fo0 w cs P (sgIn cs P) r).cells, .b false,
      .call .none [.dict (walkD w cs P 0 (sgIn cs P) r), .dict (foR P), .seq 1 (glyP P)], .call .none (fo1 w cs P P 1 r).cells])
    (show runB (.of g (n + 12) 345) (whB (whl345 w)) (fo0 w cs P (sgIn cs P) r) _ = some (.next, fo1 w cs P P 1 r,
      [CallTo g (n + 12) 261 [.mob 278 0] (fo0 w cs P (sgIn cs P) r).cells (signP 97 P) (fo0 w cs P (sgIn cs P) r).cells, ((97 : Int) == 10) = false,
       CallTo g (n + 12) 91 [.int 97, .anyi, optsP] (fo0 w cs P (sgIn cs P) r).cells (.list [.int 97]) (fo0 w cs P (sgIn cs P) r).cells, (0 : Nat) ≤ 1000, (1 : Nat) ≤ 1000, decide (((0 : Nat) : Int) + ((1 : Nat) : Int) > 12 - 1) = false,
       CallTo g (n + 12) 324 [.mob 313 1, signP 97 P, .list [.int 97]] (fo0 w cs P (sgIn cs P) r).cells .none [.dict (walkD w cs P 0 (sgIn cs P) r), .dict (foR P), .seq 1 (glyP P)], (1 : Nat) ≤ 1000,
       CallTo g (n + 12) 268 [.mob 278 0] [.dict (walkD w cs P 0 (sgIn cs P) r), .dict (foR P), .seq 1 (glyP P)] .none (fo1 w cs P P 1 r).cells]) by kernel_rfl) ⟨?_, rfl, ?_, by decide, by decide, rfl, ?_, by decide, ?_, trivial⟩
  · refine CallTo.sub1 (fs := walkD w cs P 0 (sgIn cs P) r) (fs' := walkD w cs P 0 (sgIn cs P) r) (((a_sign_in (n := n)).conv fun F ms v i => by rw [h97] at i; exact i).le (by omega)) rfl (nc_walk nc_in) (nc_walk nc_in) nc_sign NCL.nil rfl
  · exact ((a_shown_codes (n := n)).frame (by repeat' (first | exact NCL.nil | refine NCL.cons ?_ ?_ | exact NC.int | exact NC.bool | exact NC.sbool | exact NC.none | exact NC.any | exact NC.anyi | exact nc_view | exact nc_pane | exact nc_rowsP | exact nc_rowK | exact nc_opts | exact nc_table | exact nc_spot | assumption | refine NC.tup ?_ | refine NC.list ?_ | refine NC.inst ?_ | exact NCD.nil | refine NCD.cons ?_ ?_ | exact NC.str | exact NC.seq (fun _ => NC.int)))).le (by omega)
  · exact (a_put (n := n) (z := P) (j := 0) (f := glyP P) (by simp [glyP]) (by decide) (fun i => .tup (NCL.cons .int (NCL.cons .int (NCL.cons .int NCL.nil)))) (nc_walk nc_in) nc_spot nc_spot .anyi .anyi).le (by omega)
  · exact CallTo.sub1 ((a_step (n := n)).le (by omega)) rfl (nc_walk nc_in) (nc_walk nc_in) .none NCL.nil rfl
theorem nc_gly {j : Nat} : NC (glyP P j) := .tup (NCL.cons .int (NCL.cons .int (NCL.cons .int NCL.nil)))
theorem fo_turn1 {k : Nat} (hc : cs.length ≤ 100) (hz : z + 1 < 1 + cs.length) (h97 : codeAt cs (z + 1) = 97) (hk : P + (k : Int) = z + 1) (hk9 : k ≤ 9) :
    ExsG (.of g (n + 12) 345) (whB (whl345 w)) (fo1 w cs P z k r) .next (fo1 w cs P (z + 1) (k + 1) (max r (z + 1 + 1))) := by
  refine runB_exs (o := [.call (signP 97 (z + 1)) [.dict (walkD w cs (z + 1) 0 (sgIn cs (z + 1)) (max r (z + 1 + 1))), .dict (foR P), .seq k (glyP P)], .b false, .call (.list [.int 97]) [.dict (walkD w cs (z + 1) 0 (sgIn cs (z + 1)) (max r (z + 1 + 1))), .dict (foR P), .seq k (glyP P)], .b false,
      .call .none [.dict (walkD w cs (z + 1) 0 (sgIn cs (z + 1)) (max r (z + 1 + 1))), .dict (foR P), .seq (k + 1) (glyP P)], .call .none (fo1 w cs P (z + 1) (k + 1) (max r (z + 1 + 1))).cells])
    (show runB (.of g (n + 12) 345) (whB (whl345 w)) (fo1 w cs P z k r) _ = some (.next, fo1 w cs P (z + 1) (k + 1) (max r (z + 1 + 1)),
      [CallTo g (n + 12) 261 [.mob 278 0] (fo1 w cs P z k r).cells (signP 97 (z + 1)) [.dict (walkD w cs (z + 1) 0 (sgIn cs (z + 1)) (max r (z + 1 + 1))), .dict (foR P), .seq k (glyP P)], ((97 : Int) == 10) = false,
       CallTo g (n + 12) 91 [.int 97, .anyi, optsP] [.dict (walkD w cs (z + 1) 0 (sgIn cs (z + 1)) (max r (z + 1 + 1))), .dict (foR P), .seq k (glyP P)] (.list [.int 97]) [.dict (walkD w cs (z + 1) 0 (sgIn cs (z + 1)) (max r (z + 1 + 1))), .dict (foR P), .seq k (glyP P)],
       k ≤ 1000, (1 : Nat) ≤ 1000, decide ((k : Int) + ((1 : Nat) : Int) > 12 - 1) = false,
       CallTo g (n + 12) 324 [.mob 313 1, signP 97 (z + 1), .list [.int 97]] [.dict (walkD w cs (z + 1) 0 (sgIn cs (z + 1)) (max r (z + 1 + 1))), .dict (foR P), .seq k (glyP P)] .none [.dict (walkD w cs (z + 1) 0 (sgIn cs (z + 1)) (max r (z + 1 + 1))), .dict (foR P), .seq (k + 1) (glyP P)], (1 : Nat) ≤ 1000,
       CallTo g (n + 12) 268 [.mob 278 0] [.dict (walkD w cs (z + 1) 0 (sgIn cs (z + 1)) (max r (z + 1 + 1))), .dict (foR P), .seq (k + 1) (glyP P)] .none (fo1 w cs P (z + 1) (k + 1) (max r (z + 1 + 1))).cells]) by kernel_rfl) ⟨?_, rfl, ?_, by omega, by decide, by simp; omega, ?_, by decide, ?_, trivial⟩
  · refine CallTo.sub1 (fs := walkD w cs z 1 (sgIn cs z) r) (((a_sign_1in (n := n) hc hz).conv fun F ms v i => by rw [h97] at i; exact i).le (by omega)) rfl (nc_walk nc_in) (nc_walk nc_in) nc_sign NCL.nil rfl
  · exact ((a_shown_codes (n := n)).frame (by repeat' (first | exact NCL.nil | refine NCL.cons ?_ ?_ | exact NC.int | exact NC.bool | exact NC.sbool | exact NC.none | exact NC.any | exact NC.anyi | exact nc_view | exact nc_pane | exact nc_rowsP | exact nc_rowK | exact nc_opts | exact nc_table | exact nc_spot | assumption | refine NC.tup ?_ | refine NC.list ?_ | refine NC.inst ?_ | exact NCD.nil | refine NCD.cons ?_ ?_ | exact NC.str | exact NC.seq (fun _ => NC.int)))).le (by omega)
  · exact (a_put (n := n) (z := z + 1) (j := k) (f := glyP P) (by simp [glyP, hk]) (by omega) (fun i => nc_gly) (nc_walk nc_in) nc_spot nc_spot .anyi .anyi).le (by omega)
  · exact CallTo.sub1 ((a_step (n := n)).le (by omega)) rfl (nc_walk nc_in) (nc_walk nc_in) .none NCL.nil rfl
/-- the end, from either state -/
theorem fo_end0 {h : PV} {c1 c2 : List MO} {S : PV} (hS : (S = .none) ∨ (∃ z, S = signP 10 z))
    (h1 : CallTo g (n + 12) 261 [.mob 278 0] (fo0 w cs P h r).cells S c1) (h2 : CallTo g (n + 12) 331 [.mob 313 1, .mob 278 0, S, .anyi] c1 .none c2) : ExsG (.of g (n + 12) 345) (whB (whl345 w)) (fo0 w cs P h r) (.ret (.mob 313 1)) ⟨foL0 w cs P ++ [((Str.ofString "sign"), S)], c2⟩ := by
  rcases hS with rfl | ⟨z, rfl⟩
  · exact runB_exs (o := [.call .none c1, .call .none c2]) (show runB (.of g (n + 12) 345) (whB (whl345 w)) (fo0 w cs P h r) _ = some (.ret (.mob 313 1), ⟨foL0 w cs P ++ [((Str.ofString "sign"), .none)], c2⟩,
      [CallTo g (n + 12) 261 [.mob 278 0] (fo0 w cs P h r).cells .none c1, CallTo g (n + 12) 331 [.mob 313 1, .mob 278 0, .none, .anyi] c1 .none c2]) by kernel_rfl) ⟨h1, h2, trivial⟩
  · exact runB_exs (o := [.call (signP 10 z) c1, .b true, .call .none c2]) (show runB (.of g (n + 12) 345) (whB (whl345 w)) (fo0 w cs P h r) _ = some (.ret (.mob 313 1), ⟨foL0 w cs P ++ [((Str.ofString "sign"), signP 10 z)], c2⟩,
      [CallTo g (n + 12) 261 [.mob 278 0] (fo0 w cs P h r).cells (signP 10 z) c1, ((10 : Int) == 10) = true, CallTo g (n + 12) 331 [.mob 313 1, .mob 278 0, signP 10 z, .anyi] c1 .none c2]) by kernel_rfl) ⟨h1, rfl, h2, trivial⟩
theorem fo_end1 {k : Nat} {c1 c2 : List MO} {S : PV} (hS : (S = .none) ∨ (∃ z, S = signP 10 z))
    (h1 : CallTo g (n + 12) 261 [.mob 278 0] (fo1 w cs P z k r).cells S c1) (h2 : CallTo g (n + 12) 331 [.mob 313 1, .mob 278 0, S, .anyi] c1 .none c2) : ExsG (.of g (n + 12) 345) (whB (whl345 w)) (fo1 w cs P z k r) (.ret (.mob 313 1)) ⟨foL1 w cs P S, c2⟩ := by
  rcases hS with rfl | ⟨z2, rfl⟩
  · exact runB_exs (o := [.call .none c1, .call .none c2]) (show runB (.of g (n + 12) 345) (whB (whl345 w)) (fo1 w cs P z k r) _ = some (.ret (.mob 313 1), ⟨foL1 w cs P .none, c2⟩,
      [CallTo g (n + 12) 261 [.mob 278 0] (fo1 w cs P z k r).cells .none c1, CallTo g (n + 12) 331 [.mob 313 1, .mob 278 0, .none, .anyi] c1 .none c2]) by kernel_rfl) ⟨h1, h2, trivial⟩
  · exact runB_exs (o := [.call (signP 10 z2) c1, .b true, .call .none c2]) (show runB (.of g (n + 12) 345) (whB (whl345 w)) (fo1 w cs P z k r) _ = some (.ret (.mob 313 1), ⟨foL1 w cs P (signP 10 z2), c2⟩,
      [CallTo g (n + 12) 261 [.mob 278 0] (fo1 w cs P z k r).cells (signP 10 z2) c1, ((10 : Int) == 10) = true, CallTo g (n + 12) 331 [.mob 313 1, .mob 278 0, signP 10 z2, .anyi] c1 .none c2]) by kernel_rfl) ⟨h1, rfl, h2, trivial⟩
theorem eol_nl {zz r1 : Int} (hc : cs.length ≤ 100) (h1 : 1 ≤ zz) (h0 : zz < 1 + cs.length) (hnl : codeAt cs zz = 10) :
    ∃ wk rr, ∀ g : Gl w, CallTo g (n + 12) 331 [.mob 313 1, .mob 278 0, signP 10 zz, .anyi] [.dict (walkD w cs zz 0 (sgIn cs zz) r1), .dict (foR P), .seq d (glyP P)] .none [.dict wk, .dict (rowD (spotP P) .anyi (spotP (zz + 1)) (.int 0) (.cell 2) true true false rr), .seq d (glyP P)] := by
  by_cases h : zz + 1 < 1 + (cs.length : Int)
  · exact ⟨_, _, fun g => (a_eol_nl (n := n) (gl := .seq d (glyP P)) hc h1 h0 hnl (a_spot_1in (n := n) hc h) nc_in).le (by omega)⟩
  · exact ⟨_, _, fun g => (a_eol_nl (n := n) (gl := .seq d (glyP P)) hc h1 h0 hnl (a_spot_1out (n := n) hc h0 (by omega)) nc_out).le (by omega)⟩
noncomputable def ncOf (bk : Bool) : PV := bif bk then .int 0 else .anyi
/-- what is left of the loop -/
noncomputable def FoEnd (w : World) (n : Nat) (cs : List Int) (P q : Int) (d : Nat) (bk : Bool) (st : AS) : Prop :=
  ∃ l wk rr, ∀ g : Gl w, WhlG (.of g (n + 12) 345) (whT (whl345 w)) (whB (whl345 w)) st (.ret (.mob 313 1)) ⟨l, [.dict wk, .dict (rowD (spotP P) .anyi (spotP q) (ncOf bk) (.cell 2) bk bk (!bk) rr), .seq d (glyP P)]⟩
theorem fo_rest (hc : cs.length ≤ 100) (hrun : Run cs P d) (hstop : Stops cs (P + d) bk) (hq : q = if bk then P + d + 1 else P + d) :
    ∀ (m k : Nat) (z r : Int), P + (k : Int) = z + 1 → k + m = d → 1 ≤ k → FoEnd w n cs P q d bk (fo1 w cs P z k r)
  | 0, k, z, r, hz, hk, h1 => by
    obtain ⟨hP, hPd, hd, h97⟩ := hrun
    obtain rfl : k = d := by omega
    rcases hstop with ⟨rfl, h2, h3⟩ | ⟨rfl, h2⟩
    · rw [if_pos rfl] at hq
      rw [hz] at h2 h3 hq
      subst hq
      obtain ⟨wk, rr, he⟩ := eol_nl (n := n) (P := P) (d := k) (r1 := max r (z + 1 + 1)) hc (by omega) h2 h3
      refine ⟨_, _, _, fun g => WhlG_ret tst345 (fo_end1 (P := P) (k := k) (.inr ⟨z + 1, rfl⟩) (by
        exact CallTo.sub1 (fs := walkD w cs z 1 (sgIn cs z) r) (((a_sign_1in (n := n) hc h2).conv fun F ms v i => by rw [h3] at i; exact i).le (by omega)) rfl (nc_walk nc_in) (nc_walk nc_in) nc_sign NCL.nil rfl) (by exact he _))⟩
    · rw [if_neg (by simp)] at hq
      rw [hz] at h2 hq
      subst hq
      refine ⟨_, _, _, fun g => WhlG_ret tst345 (fo_end1 (P := P) (k := k) (S := .none) (.inl rfl) (by
        exact CallTo.sub1 (fs := walkD w cs z 1 (sgIn cs z) r) ((a_sign_1out (n := n) hc (by omega) (by omega)).le (by omega)) rfl (nc_walk nc_in) (nc_walk nc_out) .none NCL.nil rfl) (by
        exact (a_eol_end (n := n) (gl := .seq k (glyP P)) hc (by omega)).le (by omega)))⟩
  | m + 1, k, z, r, hz, hk, h1 => by
    have hr := hrun
    obtain ⟨hP, hPd, hd, h97⟩ := hrun
    have h2 : z + 1 < 1 + (cs.length : Int) := by omega
    have h3 : codeAt cs (z + 1) = 97 := by rw [← hz]; exact h97 k (by omega)
    obtain ⟨l, wk, rr, hw⟩ := fo_rest hc hr hstop hq m (k + 1) (z + 1) (max r (z + 1 + 1)) (by push_cast; omega) (by omega) (by omega)
    exact ⟨l, wk, rr, fun g => WhlG_next tst345 (fo_turn1 hc h2 h3 hz (by omega)) (hw g)⟩
theorem fo_in (hc : cs.length ≤ 100) (hrun : Run cs P d) (hstop : Stops cs (P + d) bk) (hq : q = if bk then P + d + 1 else P + d) (hlt : P < 1 + (cs.length : Int)) :
    FoEnd w n cs P q d bk (fo0 w cs P (sgIn cs P) r) := by
  have hr := hrun
  obtain ⟨hP, hPd, hd, h97⟩ := hrun
  rcases Nat.eq_zero_or_pos d with rfl | hd0
  · have hP0 : P + ((0 : Nat) : Int) = P := by simp
    rcases hstop with ⟨rfl, h2, h3⟩ | ⟨rfl, h2⟩
    · rw [if_pos rfl, hP0] at hq
      rw [hP0] at h2 h3
      subst hq
      obtain ⟨wk, rr, he⟩ := eol_nl (n := n) (P := P) (d := 0) (r1 := r) hc hP h2 h3
      refine ⟨_, _, _, fun g => WhlG_ret tst345 (fo_end0 (P := P) (.inr ⟨P, rfl⟩) (by
        exact CallTo.sub1 (fs := walkD w cs P 0 (sgIn cs P) r) (((a_sign_in (n := n)).conv fun F ms v i => by rw [h3] at i; exact i).le (by omega)) rfl (nc_walk nc_in) (nc_walk nc_in) nc_sign NCL.nil rfl) (by exact he _))⟩
    · rw [hP0] at h2; omega
  · obtain ⟨l, wk, rr, hw⟩ := fo_rest (n := n) hc hr hstop hq (d - 1) 1 P r (by simp) (by omega) (Nat.le_refl _)
    exact ⟨l, wk, rr, fun g => WhlG_next tst345 (fo_turn0 (by simpa using h97 0 hd0)) (hw g)⟩
theorem fo_out (hc : cs.length ≤ 100) (hrun : Run cs P d) (hstop : Stops cs (P + d) bk) (hq : q = if bk then P + d + 1 else P + d) (hlt : P ≥ 1 + (cs.length : Int)) :
    FoEnd w n cs P q d bk (fo0 w cs P (sgOut P) r) := by
  obtain ⟨hP, hPd, hd, h97⟩ := hrun
  obtain rfl : d = 0 := by omega
  have hP0 : P + ((0 : Nat) : Int) = P := by simp
  rcases hstop with ⟨rfl, h2, h3⟩ | ⟨rfl, h2⟩
  · rw [hP0] at h2; omega
  · rw [if_neg (by simp), hP0] at hq
    subst hq
    refine ⟨_, _, _, fun g => WhlG_ret tst345 (fo_end0 (P := q) (S := .none) (.inl rfl) (by
      exact CallTo.sub1 (fs := walkD w cs q 0 (sgOut q) r) ((a_sign_out (n := n) hc hlt).le (by omega)) rfl (nc_walk nc_out) (nc_walk nc_out) .none NCL.nil rfl) (by
      exact (a_eol_end (n := n) (gl := .seq 0 (glyP q)) hc hlt).le (by omega)))⟩
/-- a row, done -/
noncomputable def rowP (P q : Int) (d : Nat) (bk : Bool) : PV := .inst 313 [((Str.ofString "start"), spotP P), ((Str.ofString "column"), .anyi), ((Str.ofString "end"), spotP q), ((Str.ofString "next_column"), .anyi), ((Str.ofString "glyphs"), .seq d (glyP P)), ((Str.ofString "is_line_end"), .any), ((Str.ofString "is_break"), .sbool bk), ((Str.ofString "is_end"), .sbool (!bk)), ((Str.ofString "mark"), .any), ((Str.ofString "reach"), .any)]
theorem nc_rowP : NC (rowP P q d bk) := .inst (NCD.cons nc_spot (NCD.cons .anyi (NCD.cons nc_spot (NCD.cons .anyi (NCD.cons (.seq fun _ => nc_gly) (NCD.cons .any (NCD.cons .sbool (NCD.cons .sbool (NCD.cons .any (NCD.cons .any NCD.nil))))))))))
theorem IsD.step {F : Addr → Obj → Prop} {ms : List Addr} {x : Str} {p p' : PV} {fs fs' : List (Str × PV)} (hp : ∀ v, Is w F ms p v → Is w F ms p' v) (hf : ∀ es, IsD w F ms fs es → IsD w F ms fs' es) (es : List DictEntry) (h : IsD w F ms ((x, p) :: fs) es) : IsD w F ms ((x, p') :: fs') es := by
  cases h with | cons i l => exact .cons (hp _ i) (hf _ l)
theorem sb_of {F : Addr → Obj → Prop} {ms : List Addr} {b : Bool} (v : Value) (i : Is w F ms (.bool b) v) : Is w F ms (.sbool b) v := by cases i; exact .sbool
theorem rowP_conv {nc : PV} {b1 b2 b3 : Bool} {rr : Int} (hn : num? nc = true) (e2 : b2 = bk) (e3 : b3 = !bk) : ∀ F ms v, Is w F ms (.inst 313 (rowD (spotP P) .anyi (spotP q) nc (.seq d (glyP P)) b1 b2 b3 rr)) v → Is w F ms (rowP P q d bk) v := fun F ms v i => by
  subst e2 e3
  obtain ⟨a, d, es, rfl, f1, f2, l⟩ := i.inst_inv
  have any : ∀ {p : PV} v, Is w F ms p v → Is w F ms .any v := fun v i => .any i.handed
  exact .inst f1 f2 (IsD.step (fun _ i => i) (IsD.step (fun _ i => i) (IsD.step (fun _ i => i) (IsD.step (fun v i => by obtain ⟨x, t, rfl⟩ := i.num hn; exact .anyi) (IsD.step (fun _ i => i) (IsD.step any (IsD.step sb_of (IsD.step sb_of (IsD.step any (IsD.step any fun _ h => h))))))))) es l)
/-- the state ahead of the loop, as the code leaves it -/
noncomputable def foS (w : World) (cs : List Int) (P : Int) (h : PV) (r : Int) : AS := ⟨foL0 w cs P, [.dict (walkD w cs P 0 h r), .dict (foR P), .list []]⟩
theorem fo_start {x : Cx w} {st' : AS} {f : AF} {h : PV} (hw : WhlG x (whT (whl345 w)) (whB (whl345 w)) (fo0 w cs P h r) f st') : Ex1G x (whl345 w) (foS w cs P h r) f st' :=
  Ex1G.from (st := fo0 w cs P h r) (Ex1G_whl (by kernel_rfl) hw) fun c W g R => R.cell (i := 2) (mo := .list []) (mo' := .seq 0 (glyP P)) rfl nil_seq
theorem a_folded (hc : cs.length ≤ 100) (hrun : Run cs P d) (hstop : Stops cs (P + d) bk) (hq : q = if bk then P + d + 1 else P + d) : CallTo g (n + 13) 345 [viewP cs, tableP w, spotP P, .anyi, .int 12, optsP] [] (rowP P q d bk) [] := by
  have main : ∀ h, NC h → CallTo g (n + 12) 278 [viewP cs, tableP w, spotP P] [] (.mob 278 0) [.dict (walkD w cs P 0 h (P + 1))] → CallTo g (n + 12) 275 [.mob 278 0] [.dict (walkD w cs P 0 h (P + 1))] (spotP P) [.dict (walkD w cs P 0 h (P + 1))] →
      FoEnd w n cs P q d bk (fo0 w cs P h (P + 1)) → CallTo g (n + 13) 345 [viewP cs, tableP w, spotP P, .anyi, .int 12, optsP] [] (rowP P q d bk) [] := by
    rintro h nh h1 h2 ⟨l, wk, rr, hw⟩
    have key : ∀ b, b = bk → CallTo g (n + 13) 345 [viewP cs, tableP w, spotP P, .anyi, .int 12, optsP] [] (.inst 313 (rowD (spotP P) .anyi (spotP q) (ncOf b) (.seq d (glyP P)) b b (!b) rr)) [] := by
      intro b hb
      have run : ∀ b : Bool, runP g (n + 12) 345 [(Str.ofString "view"), (Str.ofString "table"), (Str.ofString "spot"), (Str.ofString "column"), (Str.ofString "width"), (Str.ofString "options")] [viewP cs, tableP w, spotP P, .anyi, .int 12, optsP] [] [.call (.mob 278 0) [.dict (walkD w cs P 0 h (P + 1))], .call (spotP P) [.dict (walkD w cs P 0 h (P + 1))],
          .call (.mob 313 1) (foS w cs P h (P + 1)).cells, .st (.ret (.mob 313 1)) ⟨l, [.dict wk, .dict (rowD (spotP P) .anyi (spotP q) (ncOf b) (.cell 2) b b (!b) rr), .seq d (glyP P)]⟩] =
        some (.ret (.mob 313 1), [.dict wk, .dict (rowD (spotP P) .anyi (spotP q) (ncOf b) (.cell 2) b b (!b) rr), .seq d (glyP P)],
          [CallTo g (n + 12) 278 [viewP cs, tableP w, spotP P] [] (.mob 278 0) [.dict (walkD w cs P 0 h (P + 1))], CallTo g (n + 12) 275 [.mob 278 0] [.dict (walkD w cs P 0 h (P + 1))] (spotP P) [.dict (walkD w cs P 0 h (P + 1))],
           CallTo g (n + 12) 313 [spotP P, .anyi] [.dict (walkD w cs P 0 h (P + 1))] (.mob 313 1) (foS w cs P h (P + 1)).cells,
           Ex1G (.of g (n + 12) 345) (whl345 w) (foS w cs P h (P + 1)) (.ret (.mob 313 1)) ⟨l, [.dict wk, .dict (rowD (spotP P) .anyi (spotP q) (ncOf b) (.cell 2) b b (!b) rr), .seq d (glyP P)]⟩]) := by
        intro b; kernel_rfl
      have owe : AllP [CallTo g (n + 12) 278 [viewP cs, tableP w, spotP P] [] (.mob 278 0) [.dict (walkD w cs P 0 h (P + 1))], CallTo g (n + 12) 275 [.mob 278 0] [.dict (walkD w cs P 0 h (P + 1))] (spotP P) [.dict (walkD w cs P 0 h (P + 1))],
           CallTo g (n + 12) 313 [spotP P, .anyi] [.dict (walkD w cs P 0 h (P + 1))] (.mob 313 1) (foS w cs P h (P + 1)).cells,
           Ex1G (.of g (n + 12) 345) (whl345 w) (foS w cs P h (P + 1)) (.ret (.mob 313 1)) ⟨l, [.dict wk, .dict (rowD (spotP P) .anyi (spotP q) (ncOf b) (.cell 2) b b (!b) rr), .seq d (glyP P)]⟩] :=
        ⟨h1, h2, (a_row (n := n)).le (by omega), by subst hb; exact fo_start (hw g), trivial⟩
      cases b with
      | true => exact (run_code (k := 0) (fn_345 _) (run true) rfl owe rfl (Nat.zero_le _) (Nat.zero_le _) (by kernel_rfl) rfl).call
      | false => exact (run_code (k := 0) (fn_345 _) (run false) rfl owe rfl (Nat.zero_le _) (Nat.zero_le _) (by kernel_rfl) rfl).call
    exact (key bk rfl).conv (rowP_conv (by cases bk <;> rfl) rfl rfl)
  by_cases hlt : P < 1 + (cs.length : Int)
  · exact main _ nc_in ((a_walk_in (n := n) hc hlt).le (by omega)) ((a_spot_in (n := n)).le (by omega)) (fo_in hc hrun hstop hq hlt)
  · exact main _ nc_out ((a_walk_out (n := n) hc (by omega)).le (by omega)) ((a_spot_out (n := n) hc (by omega)).le (by omega)) (fo_out hc hrun hstop hq (by omega))
end

end
noncomputable section
/-! rows of the text's lines -/
noncomputable def rowK (N : Nat) (P : Nat → Int) (D : Nat → Nat) (i : Nat) : PV := rowP (P i) (qOf N P i) (D i) (decide (i + 1 < N))
theorem nc_rowK {N : Nat} {P : Nat → Int} {D : Nat → Nat} {i : Nat} : NC (rowK N P D i) := nc_rowP
section
variable {w : World} {g : Gl w} {n : Nat} {cs : List Int} {N : Nat} {P : Nat → Int} {D : Nat → Nat} {i : Nat} {z : Int}
theorem CallTo.args {f : Nat} {args args' : List PV} {cells cells' : List MO} {r : PV} (h : CallTo g n f args cells r cells') (k : ∀ F ms vs, IsL w F ms args' vs → IsL w F ms args vs) : CallTo g n f args' cells r cells' := fun A h0 tk gs dr os F cs vs S Q kQ => h A h0 tk gs dr os F cs vs { S with args := k _ _ _ S.args } Q kQ
theorem fn_359 (P : Params) : FnAt (hd.heap_39 P) 359 [(Str.ofString "view"), (Str.ofString "table"), (Str.ofString "spot"), (Str.ofString "column"), (Str.ofString "width"), (Str.ofString "options")] := ⟨by kernel_rfl, by kernel_rfl, by kernel_rfl, by decide +kernel, by rintro (_ | ⟨v0, _ | ⟨v1, _ | ⟨v2, _ | ⟨v3, _ | ⟨v4, _ | ⟨v5, _ | ⟨v6, vs⟩⟩⟩⟩⟩⟩⟩) h <;> first | (simp at h; done) | kernel_rfl⟩
theorem fn_380 (P : Params) : FnAt (hd.heap_39 P) 380 [(Str.ofString "view"), (Str.ofString "table"), (Str.ofString "spot"), (Str.ofString "width"), (Str.ofString "options")] := ⟨by kernel_rfl, by kernel_rfl, by kernel_rfl, by decide +kernel, by rintro (_ | ⟨v0, _ | ⟨v1, _ | ⟨v2, _ | ⟨v3, _ | ⟨v4, _ | ⟨v5, vs⟩⟩⟩⟩⟩⟩) h <;> first | (simp at h; done) | kernel_rfl⟩
theorem fn_373 (P : Params) : FnAt (hd.heap_39 P) 373 [(Str.ofString "view"), (Str.ofString "place")] := ⟨by kernel_rfl, by kernel_rfl, by kernel_rfl, by decide +kernel, by rintro (_ | ⟨v0, _ | ⟨v1, _ | ⟨v2, vs⟩⟩⟩) h <;> first | (simp at h; done) | kernel_rfl⟩
theorem a_laid (hc : cs.length ≤ 100) (hT : Text cs N P D) (hi : i < N) : CallTo g (n + 14) 359 [viewP cs, tableP w, spotP (P i), .anyi, .int 12, optsP] [] (rowK N P D i) [] :=
  (run_code (k := 0) (fn_359 _) (show runP g (n + 13) 359 [(Str.ofString "view"), (Str.ofString "table"), (Str.ofString "spot"), (Str.ofString "column"), (Str.ofString "width"), (Str.ofString "options")] [viewP cs, tableP w, spotP (P i), .anyi, .int 12, optsP] [] [.call (rowK N P D i) []] = some (.ret (rowK N P D i), [], [CallTo g (n + 13) 345 [viewP cs, tableP w, spotP (P i), .anyi, .int 12, optsP] [] (rowK N P D i) []]) by kernel_rfl) rfl ⟨a_folded (n := n) hc (hT.run i hi) (hT.stops i hi) (hT.q hi), trivial⟩ rfl (Nat.zero_le _) (Nat.zero_le _) (by kernel_rfl) rfl).call
theorem a_laid0 (hc : cs.length ≤ 100) (hT : Text cs N P D) (hi : i < N) : CallTo g (n + 14) 359 [viewP cs, tableP w, spotP (P i), .int 0, .int 12, optsP] [] (rowK N P D i) [] :=
  (a_laid hc hT hi).args fun F ms vs l => by
    rcases l with _ | ⟨i1, _ | ⟨i2, _ | ⟨i3, _ | ⟨i4, l⟩⟩⟩⟩
    cases i4
    exact .cons i1 (.cons i2 (.cons i3 (.cons .anyi l)))
theorem a_rows_of (hc : cs.length ≤ 100) (hT : Text cs N P D) (hi : i < N) : CallTo g (n + 15) 380 [viewP cs, tableP w, spotP (P i), .int 12, optsP] [] (.list [rowK N P D i]) [] := by
  cases hb : decide (i + 1 < N) with
  | true =>
    exact (run_code (k := 0) (fn_380 _) (show runP g (n + 14) 380 [(Str.ofString "view"), (Str.ofString "table"), (Str.ofString "spot"), (Str.ofString "width"), (Str.ofString "options")] [viewP cs, tableP w, spotP (P i), .int 12, optsP] [] [.call (rowK N P D i) [], .b true] = some (.ret (.cell 0), [.list [rowK N P D i]], [CallTo g (n + 14) 359 [viewP cs, tableP w, spotP (P i), .int 0, .int 12, optsP] [] (rowK N P D i) [], decide (i + 1 < N) = true]) by kernel_rfl) rfl ⟨a_laid0 hc hT hi, hb, trivial⟩ rfl (Nat.zero_le _) (Nat.zero_le _) (by kernel_rfl) rfl).call
  | false =>
    exact (run_code (k := 0) (fn_380 _) (show runP g (n + 14) 380 [(Str.ofString "view"), (Str.ofString "table"), (Str.ofString "spot"), (Str.ofString "width"), (Str.ofString "options")] [viewP cs, tableP w, spotP (P i), .int 12, optsP] [] [.call (rowK N P D i) [], .b false, .b true] = some (.ret (.cell 0), [.list [rowK N P D i]], [CallTo g (n + 14) 359 [viewP cs, tableP w, spotP (P i), .int 0, .int 12, optsP] [] (rowK N P D i) [], decide (i + 1 < N) = false, (!decide (i + 1 < N)) = true]) by kernel_rfl) rfl ⟨a_laid0 hc hT hi, hb, by rw [hb]; rfl, trivial⟩ rfl (Nat.zero_le _) (Nat.zero_le _) (by kernel_rfl) rfl).call
/-! line_begin -/
noncomputable abbrev whl373 (w : World) : Stmt := stAt (KK w) 373 0
noncomputable def lbS (cs : List Int) (z : Int) : AS := ⟨[((Str.ofString "view"), viewP cs), ((Str.ofString "place"), .int z)], []⟩
theorem lb_loop (hc : cs.length ≤ 100) (hT : Text cs N P D) (hi : i < N) :
    ∀ (m : Nat) (z : Int), z = P i + m → z < P (i + 1) → WhlG (.of g (n + 3) 373) (whT (whl373 w)) (whB (whl373 w)) (lbS cs z) .next (lbS cs (P i))
  | 0, z, hz, hlt => by
    obtain rfl : z = P i := by simpa using hz
    have h1 := hT.pos (i := i) (by omega)
    have hfin := hT.fin
    have hle := hT.le (i := i + 1) (j := N) (by omega) (by omega)
    by_cases h0 : i = 0
    · subst h0
      have := hT.first
      exact WhlG_no (runT_ts (o := [.call (.int 1) [], .b false]) (show runT (.of g (n + 3) 373) (whT (whl373 w)) (lbS cs (P 0)) _ = some (false, lbS cs (P 0), [CallTo g (n + 3) 113 [viewP cs] [] (.int 1) [], decide (P 0 > 1) = false]) by kernel_rfl) ⟨a_begin (n := n + 2), by simp; omega, trivial⟩)
    · have h2 := hT.nl (i := i - 1) (by omega)
      have h3 := hT.lt (i := 0) (j := i) (by omega) (by omega)
      rw [hT.first] at h3
      rw [show i - 1 + 1 = i by omega] at h2
      exact WhlG_no (runT_ts (o := [.call (.int 1) [], .b true, .call (.bool true) []]) (show runT (.of g (n + 3) 373) (whT (whl373 w)) (lbS cs (P i)) _ = some (false, lbS cs (P i), [CallTo g (n + 3) 113 [viewP cs] [] (.int 1) [], decide (P i > 1) = true, CallTo g (n + 3) 190 [viewP cs, .int (P i - 1)] [] (.bool true) []]) by kernel_rfl)
        ⟨a_begin (n := n + 2), by simp; omega, (a_is_break (n := n) hc (by omega) (by omega)).conv (fun F ms v q => by rw [h2] at q; exact q), trivial⟩)
  | m + 1, z, hz, hlt => by
    have h1 := hT.pos (i := i) (by omega)
    have hfin := hT.fin
    have hle := hT.le (i := i + 1) (j := N) (by omega) (by omega)
    have h2 := hT.let' hi (q := z) (by omega) hlt
    refine WhlG_next (runT_ts (o := [.call (.int 1) [], .b true, .call (.bool false) []]) (show runT (.of g (n + 3) 373) (whT (whl373 w)) (lbS cs z) _ = some (true, lbS cs z, [CallTo g (n + 3) 113 [viewP cs] [] (.int 1) [], decide (z > 1) = true, CallTo g (n + 3) 190 [viewP cs, .int (z - 1)] [] (.bool false) []]) by kernel_rfl)
        ⟨a_begin (n := n + 2), by simp; omega, (a_is_break (n := n) hc (by omega) (by omega)).conv (fun F ms v q => by rw [h2] at q; exact q), trivial⟩)
      (runB_exs (o := []) (ps := []) (show runB (.of g (n + 3) 373) (whB (whl373 w)) (lbS cs z) [] = some (.next, lbS cs (z - 1), []) by kernel_rfl) trivial) (lb_loop hc hT hi m (z - 1) (by push_cast at hz; omega) (by omega))
theorem a_line_begin (hc : cs.length ≤ 100) (hT : Text cs N P D) (hi : i < N) (h1 : P i ≤ z) (h2 : z < P (i + 1)) : CallTo g (n + 4) 373 [viewP cs, .int z] [] (.int (P i)) [] :=
  (run_code (k := 0) (fn_373 _) (show runP g (n + 3) 373 [(Str.ofString "view"), (Str.ofString "place")] [viewP cs, .int z] [] [.st .next (lbS cs (P i))] = some (.ret (.int (P i)), [], [Ex1G (.of g (n + 3) 373) (whl373 w) (lbS cs z) .next (lbS cs (P i))]) by kernel_rfl) rfl
    ⟨Ex1G_whl (by kernel_rfl) (lb_loop (n := n) hc hT hi (z - P i).toNat z (by omega) h2), trivial⟩ rfl (Nat.zero_le _) (Nat.zero_le _) rfl rfl).call
end

end
noncomputable section
/-! the rows from a line on -/
noncomputable def rowsF (N : Nat) (P : Nat → Int) (D : Nat → Nat) (i j : Nat) : PV := rowK N P D (i + j)
noncomputable def rowsP (N : Nat) (P : Nat → Int) (D : Nat → Nat) (i k : Nat) : PV := .seq k (rowsF N P D i)
theorem nc_rowsP {N : Nat} {P : Nat → Int} {D : Nat → Nat} {i k : Nat} : NC (rowsP N P D i k) := .seq fun _ => nc_rowK
section
variable {w : World} {g : Gl w} {n : Nat} {cs : List Int} {N : Nat} {P : Nat → Int} {D : Nat → Nat} {i high : Nat} {z : Int}
theorem fn_366 (P : Params) : FnAt (hd.heap_39 P) 366 [(Str.ofString "view"), (Str.ofString "table"), (Str.ofString "spot"), (Str.ofString "column"), (Str.ofString "height"), (Str.ofString "width"), (Str.ofString "options")] := ⟨by kernel_rfl, by kernel_rfl, by kernel_rfl, by decide +kernel, by rintro (_ | ⟨v0, _ | ⟨v1, _ | ⟨v2, _ | ⟨v3, _ | ⟨v4, _ | ⟨v5, _ | ⟨v6, _ | ⟨v7, vs⟩⟩⟩⟩⟩⟩⟩⟩) h <;> first | (simp at h; done) | kernel_rfl⟩
noncomputable abbrev whl366 (w : World) : Stmt := stAt (KK w) 366 1
noncomputable def lrB (w : World) (cs : List Int) (high : Nat) (s : PV) : List (Str × PV) := [((Str.ofString "view"), viewP cs), ((Str.ofString "table"), tableP w), ((Str.ofString "spot"), s), ((Str.ofString "column"), .anyi), ((Str.ofString "height"), .int high), ((Str.ofString "width"), .int 12), ((Str.ofString "options"), optsP), ((Str.ofString "found"), .cell 0)]
/-- j rows laid -/
noncomputable def lrS (w : World) (cs : List Int) (high N : Nat) (P : Nat → Int) (D : Nat → Nat) (i j : Nat) : AS := match j with
  | 0 => ⟨lrB w cs high (spotP (P i)), [.seq 0 (rowsF N P D i)]⟩
  | j + 1 => ⟨lrB w cs high (spotP (P (i + j + 1))) ++ [((Str.ofString "row"), rowK N P D (i + j))], [.seq (j + 1) (rowsF N P D i)]⟩
/-- row i + j laid as the last one -/
noncomputable def lrE (w : World) (cs : List Int) (high N : Nat) (P : Nat → Int) (D : Nat → Nat) (i j : Nat) : AS := match j with
  | 0 => ⟨lrB w cs high (spotP (P i)) ++ [((Str.ofString "row"), rowK N P D i)], [.seq 1 (rowsF N P D i)]⟩
  | j + 1 => ⟨lrB w cs high (spotP (P (i + j + 1))) ++ [((Str.ofString "row"), rowK N P D (i + j + 1))], [.seq (j + 2) (rowsF N P D i)]⟩
theorem lr_test {j : Nat} (hj : j ≤ 1000) {b : Bool} (hb : decide ((j : Int) < high) = b) : TsG (.of g n 366) (whT (whl366 w)) (lrS w cs high N P D i j) b (lrS w cs high N P D i j) := by
  cases j with
  | zero => exact runT_ts (o := [.b b]) (show runT (.of g n 366) (whT (whl366 w)) (lrS w cs high N P D i 0) _ = some (b, lrS w cs high N P D i 0, [(0 : Nat) ≤ 1000, decide (((0 : Nat) : Int) < high) = b]) by kernel_rfl) ⟨hj, hb, trivial⟩
  | succ j => exact runT_ts (o := [.b b]) (show runT (.of g n 366) (whT (whl366 w)) (lrS w cs high N P D i (j + 1)) _ = some (b, lrS w cs high N P D i (j + 1), [j + 1 ≤ 1000, decide (((j + 1 : Nat) : Int) < high) = b]) by kernel_rfl) ⟨hj, hb, trivial⟩
theorem lr_last (hc : cs.length ≤ 100) (hT : Text cs N P D) {j : Nat} (hi : i + j + 1 = N) : ExsG (.of g (n + 14) 366) (whB (whl366 w)) (lrS w cs high N P D i j) (.ret (.cell 0)) (lrE w cs high N P D i j) := by
  have h9 := hT.nine
  have hb : (!decide (i + j + 1 < N)) = true := by simp; omega
  cases j with
  | zero =>
    exact runB_exs (o := [.call (rowK N P D i) [.seq 0 (rowsF N P D i)], .b true]) (show runB (.of g (n + 14) 366) (whB (whl366 w)) (lrS w cs high N P D i 0) _ = some (.ret (.cell 0), lrE w cs high N P D i 0,
      [CallTo g (n + 14) 359 [viewP cs, tableP w, spotP (P i), .anyi, .int 12, optsP] [.seq 0 (rowsF N P D i)] (rowK N P D i) [.seq 0 (rowsF N P D i)], rowsF N P D i 0 = rowK N P D i ∧ 0 ≤ 1000, (!decide (i + 1 < N)) = true]) by kernel_rfl)
      ⟨(a_laid (n := n) hc hT (by omega)).frame (by repeat' (first | exact NCL.nil | refine NCL.cons ?_ ?_ | exact NC.int | exact NC.bool | exact NC.sbool | exact NC.none | exact NC.any | exact NC.anyi | exact nc_view | exact nc_pane | exact nc_rowsP | exact nc_rowK | exact nc_opts | exact nc_table | exact nc_spot | assumption | refine NC.tup ?_ | refine NC.list ?_ | refine NC.inst ?_ | exact NCD.nil | refine NCD.cons ?_ ?_ | exact NC.str | exact NC.seq (fun _ => NC.int))), ⟨rfl, by omega⟩, hb, trivial⟩
  | succ j =>
    exact runB_exs (o := [.call (rowK N P D (i + j + 1)) [.seq (j + 1) (rowsF N P D i)], .b true]) (show runB (.of g (n + 14) 366) (whB (whl366 w)) (lrS w cs high N P D i (j + 1)) _ = some (.ret (.cell 0), lrE w cs high N P D i (j + 1),
      [CallTo g (n + 14) 359 [viewP cs, tableP w, spotP (P (i + j + 1)), .anyi, .int 12, optsP] [.seq (j + 1) (rowsF N P D i)] (rowK N P D (i + j + 1)) [.seq (j + 1) (rowsF N P D i)], rowsF N P D i (j + 1) = rowK N P D (i + j + 1) ∧ j + 1 ≤ 1000, (!decide (i + j + 1 + 1 < N)) = true]) by kernel_rfl)
      ⟨(a_laid (n := n) (i := i + j + 1) hc hT (by omega)).frame (by repeat' (first | exact NCL.nil | refine NCL.cons ?_ ?_ | exact NC.int | exact NC.bool | exact NC.sbool | exact NC.none | exact NC.any | exact NC.anyi | exact nc_view | exact nc_pane | exact nc_rowsP | exact nc_rowK | exact nc_opts | exact nc_table | exact nc_spot | assumption | refine NC.tup ?_ | refine NC.list ?_ | refine NC.inst ?_ | exact NCD.nil | refine NCD.cons ?_ ?_ | exact NC.str | exact NC.seq (fun _ => NC.int))), ⟨rfl, by omega⟩, hb, trivial⟩
theorem lr_turn (hc : cs.length ≤ 100) (hT : Text cs N P D) {j : Nat} (hi : i + j + 1 < N) : ExsG (.of g (n + 14) 366) (whB (whl366 w)) (lrS w cs high N P D i j) .next (lrS w cs high N P D i (j + 1)) := by
  have h9 := hT.nine
  have hb : (!decide (i + j + 1 < N)) = false := by simp; omega
  have hq := qOf_in (n := N) (P := P) hi
  cases j with
  | zero =>
    have := runB_exs (o := [.call (rowK N P D i) [.seq 0 (rowsF N P D i)], .b false]) (show runB (.of g (n + 14) 366) (whB (whl366 w)) (lrS w cs high N P D i 0) _ = some (.next, ⟨lrB w cs high (spotP (qOf N P (i + 0))) ++ [((Str.ofString "row"), rowK N P D i)], [.seq 1 (rowsF N P D i)]⟩,
      [CallTo g (n + 14) 359 [viewP cs, tableP w, spotP (P i), .anyi, .int 12, optsP] [.seq 0 (rowsF N P D i)] (rowK N P D i) [.seq 0 (rowsF N P D i)], rowsF N P D i 0 = rowK N P D i ∧ 0 ≤ 1000, (!decide (i + 1 < N)) = false]) by kernel_rfl)
      ⟨(a_laid (n := n) hc hT (by omega)).frame (by repeat' (first | exact NCL.nil | refine NCL.cons ?_ ?_ | exact NC.int | exact NC.bool | exact NC.sbool | exact NC.none | exact NC.any | exact NC.anyi | exact nc_view | exact nc_pane | exact nc_rowsP | exact nc_rowK | exact nc_opts | exact nc_table | exact nc_spot | assumption | refine NC.tup ?_ | refine NC.list ?_ | refine NC.inst ?_ | exact NCD.nil | refine NCD.cons ?_ ?_ | exact NC.str | exact NC.seq (fun _ => NC.int))), ⟨rfl, by omega⟩, hb, trivial⟩
    rw [hq] at this
    exact this
  | succ j =>
    have := runB_exs (o := [.call (rowK N P D (i + j + 1)) [.seq (j + 1) (rowsF N P D i)], .b false]) (show runB (.of g (n + 14) 366) (whB (whl366 w)) (lrS w cs high N P D i (j + 1)) _ = some (.next, ⟨lrB w cs high (spotP (qOf N P (i + (j + 1)))) ++ [((Str.ofString "row"), rowK N P D (i + j + 1))], [.seq (j + 2) (rowsF N P D i)]⟩,
      [CallTo g (n + 14) 359 [viewP cs, tableP w, spotP (P (i + j + 1)), .anyi, .int 12, optsP] [.seq (j + 1) (rowsF N P D i)] (rowK N P D (i + j + 1)) [.seq (j + 1) (rowsF N P D i)], rowsF N P D i (j + 1) = rowK N P D (i + j + 1) ∧ j + 1 ≤ 1000, (!decide (i + j + 1 + 1 < N)) = false]) by kernel_rfl)
      ⟨(a_laid (n := n) (i := i + j + 1) hc hT (by omega)).frame (by repeat' (first | exact NCL.nil | refine NCL.cons ?_ ?_ | exact NC.int | exact NC.bool | exact NC.sbool | exact NC.none | exact NC.any | exact NC.anyi | exact nc_view | exact nc_pane | exact nc_rowsP | exact nc_rowK | exact nc_opts | exact nc_table | exact nc_spot | assumption | refine NC.tup ?_ | refine NC.list ?_ | refine NC.inst ?_ | exact NCD.nil | refine NCD.cons ?_ ?_ | exact NC.str | exact NC.seq (fun _ => NC.int))), ⟨rfl, by omega⟩, hb, trivial⟩
    rw [hq] at this
    exact this
theorem lr_ret (hc : cs.length ≤ 100) (hT : Text cs N P D) (hh : N ≤ i + high) : ∀ m j, i + j + m + 1 = N → WhlG (.of g (n + 14) 366) (whT (whl366 w)) (whB (whl366 w)) (lrS w cs high N P D i j) (.ret (.cell 0)) (lrE w cs high N P D i (j + m))
  | 0, j, e => WhlG_ret (lr_test (by have := hT.nine; omega) (by simp; omega)) (lr_last hc hT e)
  | m + 1, j, e => by
    have := lr_ret hc hT hh m (j + 1) (by omega)
    rw [show j + 1 + m = j + (m + 1) by omega] at this
    exact WhlG_next (lr_test (by have := hT.nine; omega) (by simp; omega)) (lr_turn hc hT (by omega)) this
theorem lr_next (hc : cs.length ≤ 100) (hT : Text cs N P D) (hh : i + high < N) : ∀ m j, j + m = high → WhlG (.of g (n + 14) 366) (whT (whl366 w)) (whB (whl366 w)) (lrS w cs high N P D i j) .next (lrS w cs high N P D i high)
  | 0, j, e => by
    obtain rfl : j = high := by omega
    exact WhlG_no (lr_test (by have := hT.nine; omega) (by simp))
  | m + 1, j, e => WhlG_next (lr_test (by have := hT.nine; omega) (by simp; omega)) (lr_turn hc hT (by omega)) (lr_next hc hT hh m (j + 1) (by omega))
theorem lr_start {x : Cx w} {f : AF} {st' : AS} (hw : WhlG x (whT (whl366 w)) (whB (whl366 w)) (lrS w cs high N P D i 0) f st') : Ex1G x (whl366 w) ⟨lrB w cs high (spotP (P i)), [.list []]⟩ f st' :=
  Ex1G.from (st := lrS w cs high N P D i 0) (Ex1G_whl (by kernel_rfl) hw) fun c W g R => R.cell (i := 0) (mo := .list []) (mo' := .seq 0 (rowsF N P D i)) rfl nil_seq
theorem a_laid_rows (hc : cs.length ≤ 100) (hT : Text cs N P D) (hi : i < N) (hh : 1 ≤ high) : CallTo g (n + 15) 366 [viewP cs, tableP w, spotP (P i), .anyi, .int high, .int 12, optsP] [] (rowsP N P D i (min high (N - i))) [] := by
  by_cases h : N ≤ i + high
  · have e : min high (N - i) = (N - i - 1) + 1 := by omega
    rw [e]
    have eE : (lrE w cs high N P D i (N - i - 1)).cells = [.seq (N - i - 1 + 1) (rowsF N P D i)] := by cases N - i - 1 <;> rfl
    have run : ∀ st : AS, runP g (n + 14) 366 [(Str.ofString "view"), (Str.ofString "table"), (Str.ofString "spot"), (Str.ofString "column"), (Str.ofString "height"), (Str.ofString "width"), (Str.ofString "options")] [viewP cs, tableP w, spotP (P i), .anyi, .int high, .int 12, optsP] [] [.st (.ret (.cell 0)) st] = some (.ret (.cell 0), st.cells,
      [Ex1G (.of g (n + 14) 366) (whl366 w) ⟨lrB w cs high (spotP (P i)), [.list []]⟩ (.ret (.cell 0)) st]) := by intro st; kernel_rfl
    have r1 := run (lrE w cs high N P D i (N - i - 1))
    rw [eE] at r1
    refine (run_code (k := 0) (fn_366 _) r1 rfl ⟨lr_start (N := N) (D := D) ?_, trivial⟩ rfl (Nat.zero_le _) (Nat.zero_le _) (by kernel_rfl) rfl).call
    have := lr_ret (w := w) (g := g) (n := n) (i := i) (high := high) hc hT h (N - i - 1) 0 (by omega)
    rw [Nat.zero_add] at this
    exact this
  · have e : min high (N - i) = high := by omega
    rw [e]
    have eE : (lrS w cs high N P D i high).cells = [.seq high (rowsF N P D i)] := by cases high <;> rfl
    have eL : ∃ l, lrS w cs high N P D i high = ⟨lrB w cs high l ++ (lrS w cs high N P D i high).loc.drop 8, (lrS w cs high N P D i high).cells⟩ := by
      cases high with
      | zero => exact ⟨_, rfl⟩
      | succ k => exact ⟨_, rfl⟩
    obtain ⟨s, eL⟩ := eL
    have run : ∀ (s : PV) (r : List (Str × PV)) (cl : List MO), runP g (n + 14) 366 [(Str.ofString "view"), (Str.ofString "table"), (Str.ofString "spot"), (Str.ofString "column"), (Str.ofString "height"), (Str.ofString "width"), (Str.ofString "options")] [viewP cs, tableP w, spotP (P i), .anyi, .int high, .int 12, optsP] [] [.st .next ⟨lrB w cs high s ++ r, cl⟩] = some (.ret (.cell 0), cl,
      [Ex1G (.of g (n + 14) 366) (whl366 w) ⟨lrB w cs high (spotP (P i)), [.list []]⟩ .next ⟨lrB w cs high s ++ r, cl⟩]) := by intro s r cl; kernel_rfl
    refine (run_code (k := 0) (fn_366 _) (run s ((lrS w cs high N P D i high).loc.drop 8) [.seq high (rowsF N P D i)]) rfl ⟨lr_start (N := N) (D := D) ?_, trivial⟩ rfl (Nat.zero_le _) (Nat.zero_le _) (by kernel_rfl) rfl).call
    have := lr_next (w := w) (g := g) (n := n) (i := i) (high := high) hc hT (by omega) high 0 (by omega)
    rw [eL, eE] at this
    exact this
end

end
noncomputable section
section
variable {w : World} {g : Gl w} {n : Nat} {cs : List Int} {N : Nat} {P : Nat → Int} {D : Nat → Nat} {i k : Nat} {z p0 : Int} {d : Nat}
theorem fn_394 (P : Params) : FnAt (hd.heap_39 P) 394 [(Str.ofString "rows"), (Str.ofString "spot")] := ⟨by kernel_rfl, by kernel_rfl, by kernel_rfl, by decide +kernel, by rintro (_ | ⟨v0, _ | ⟨v1, _ | ⟨v2, vs⟩⟩⟩) h <;> first | (simp at h; done) | kernel_rfl⟩
theorem fn_401 (P : Params) : FnAt (hd.heap_39 P) 401 [(Str.ofString "view"), (Str.ofString "rows"), (Str.ofString "place")] := ⟨by kernel_rfl, by kernel_rfl, by kernel_rfl, by decide +kernel, by rintro (_ | ⟨v0, _ | ⟨v1, _ | ⟨v2, _ | ⟨v3, vs⟩⟩⟩⟩) h <;> first | (simp at h; done) | kernel_rfl⟩
theorem fn_408 (P : Params) : FnAt (hd.heap_39 P) 408 [(Str.ofString "row"), (Str.ofString "place")] := ⟨by kernel_rfl, by kernel_rfl, by kernel_rfl, by decide +kernel, by rintro (_ | ⟨v0, _ | ⟨v1, _ | ⟨v2, vs⟩⟩⟩) h <;> first | (simp at h; done) | kernel_rfl⟩
theorem fn_415 (P : Params) : FnAt (hd.heap_39 P) 415 [(Str.ofString "view"), (Str.ofString "rows"), (Str.ofString "place")] := ⟨by kernel_rfl, by kernel_rfl, by kernel_rfl, by decide +kernel, by rintro (_ | ⟨v0, _ | ⟨v1, _ | ⟨v2, _ | ⟨v3, vs⟩⟩⟩⟩) h <;> first | (simp at h; done) | kernel_rfl⟩
theorem list1_seq {p : PV} {f : Nat → PV} (h : f 0 = p) : ∀ F ms v, Is w F ms (.list [p]) v → Is w F ms (.seq 1 f) v := fun F ms v i => by
  subst h
  obtain ⟨a, m, vs, rfl, f1, l⟩ := i.list_inv
  obtain ⟨v, rfl, i1⟩ := l.one_inv
  refine .seq f1 rfl fun j u e => ?_
  cases j with
  | zero => cases e; exact i1
  | succ j => exact (nil_get (i := j) e).elim
theorem encode_glob (P : Params) : nsIn (hd.heap_39 P) mainGlobals "enumerate" = some none := by kernel_rfl
/-! index_of -/
noncomputable abbrev for394 (w : World) : Stmt := stAt (KK w) 394 0
noncomputable def ixS (N : Nat) (P : Nat → Int) (D : Nat → Nat) (i k : Nat) (z : Int) (m : Nat) : AS := match m with
  | 0 => ⟨[((Str.ofString "rows"), rowsP N P D i k), ((Str.ofString "spot"), spotP z)], []⟩
  | m + 1 => ⟨[((Str.ofString "rows"), rowsP N P D i k), ((Str.ofString "spot"), spotP z), ((Str.ofString "number"), .int m), ((Str.ofString "row"), rowsF N P D i m)], []⟩
theorem nb_ix {m : Nat} : NBS (ixS N P D i k z m) := by
  cases m with
  | zero => exact ⟨all_cons nc_rowsP (all_cons nc_spot all_nil), all_nil⟩
  | succ m => exact ⟨all_cons nc_rowsP (all_cons nc_spot (all_cons .int (all_cons nc_rowK all_nil))), all_nil⟩
theorem ix_step {m : Nat} {os : List MO} {b : Bool} (ho : os.length = 2) (hb : decide (z < qOf N P (i + m)) = b) :
    ExsG (.of g n 394) (whB (for394 w)) (tgt2 (Str.ofString "number") (Str.ofString "row") (.tup [.int m, rowsF N P D i m]) { ixS N P D i k z m with cells := (ixS N P D i k z m).cells ++ os }) (match b with | true => .ret (.int m) | false => .next) { ixS N P D i k z (m + 1) with cells := (ixS N P D i k z (m + 1)).cells ++ os } := by
  rcases os with _ | ⟨o1, _ | ⟨o2, _ | ⟨o3, os⟩⟩⟩ <;> try (simp at ho; done)
  cases b with
  | true =>
    cases m with
    | zero => exact runB_exs (o := [.b true]) (show runB (.of g n 394) (whB (for394 w)) ⟨[((Str.ofString "rows"), rowsP N P D i k), ((Str.ofString "spot"), spotP z), ((Str.ofString "number"), .int (0 : Nat)), ((Str.ofString "row"), rowsF N P D i 0)], [o1, o2]⟩ _ = some (.ret (.int (0 : Nat)), ⟨[((Str.ofString "rows"), rowsP N P D i k), ((Str.ofString "spot"), spotP z), ((Str.ofString "number"), .int (0 : Nat)), ((Str.ofString "row"), rowsF N P D i 0)], [o1, o2]⟩, [decide (z < qOf N P (i + 0)) = true]) by kernel_rfl) ⟨hb, trivial⟩
    | succ m => exact runB_exs (o := [.b true]) (show runB (.of g n 394) (whB (for394 w)) ⟨[((Str.ofString "rows"), rowsP N P D i k), ((Str.ofString "spot"), spotP z), ((Str.ofString "number"), .int (m + 1 : Nat)), ((Str.ofString "row"), rowsF N P D i (m + 1))], [o1, o2]⟩ _ = some (.ret (.int (m + 1 : Nat)), ⟨[((Str.ofString "rows"), rowsP N P D i k), ((Str.ofString "spot"), spotP z), ((Str.ofString "number"), .int (m + 1 : Nat)), ((Str.ofString "row"), rowsF N P D i (m + 1))], [o1, o2]⟩, [decide (z < qOf N P (i + (m + 1))) = true]) by kernel_rfl) ⟨hb, trivial⟩
  | false =>
    cases m with
    | zero => exact runB_exs (o := [.b false]) (show runB (.of g n 394) (whB (for394 w)) ⟨[((Str.ofString "rows"), rowsP N P D i k), ((Str.ofString "spot"), spotP z), ((Str.ofString "number"), .int (0 : Nat)), ((Str.ofString "row"), rowsF N P D i 0)], [o1, o2]⟩ _ = some (.next, ⟨[((Str.ofString "rows"), rowsP N P D i k), ((Str.ofString "spot"), spotP z), ((Str.ofString "number"), .int (0 : Nat)), ((Str.ofString "row"), rowsF N P D i 0)], [o1, o2]⟩, [decide (z < qOf N P (i + 0)) = false]) by kernel_rfl) ⟨hb, trivial⟩
    | succ m => exact runB_exs (o := [.b false]) (show runB (.of g n 394) (whB (for394 w)) ⟨[((Str.ofString "rows"), rowsP N P D i k), ((Str.ofString "spot"), spotP z), ((Str.ofString "number"), .int (m + 1 : Nat)), ((Str.ofString "row"), rowsF N P D i (m + 1))], [o1, o2]⟩ _ = some (.next, ⟨[((Str.ofString "rows"), rowsP N P D i k), ((Str.ofString "spot"), spotP z), ((Str.ofString "number"), .int (m + 1 : Nat)), ((Str.ofString "row"), rowsF N P D i (m + 1))], [o1, o2]⟩, [decide (z < qOf N P (i + (m + 1))) = false]) by kernel_rfl) ⟨hb, trivial⟩
/-- the row of line i + j is the one -/
theorem a_index {j : Nat} (hT : Text cs N P D) (hj : j < k) (hk : i + k ≤ N) (h1 : P (i + j) ≤ z) (h2 : z < P (i + j + 1)) : CallTo g (n + 1) 394 [rowsP N P D i k, spotP z] [] (.int j) [] := by
  have h9 := hT.nine
  have lt : ∀ m, m < j → decide (z < qOf N P (i + m)) = false := fun m hm => by
    rw [qOf_in (by omega)]
    have := hT.le (i := i + m + 1) (j := i + j) (by omega) (by omega)
    simp; omega
  have lp : ∀ {stop : Nat} {f : AF} {st' : AS}, (∀ c, (Cx.of g n 394).At c → ForR c (tgt2 (Str.ofString "number") (Str.ofString "row")) (whB (for394 w)) 2 (.sq k (rowsF N P D i)) (fun i q => .tup [.int i, q]) (ixS N P D i k z) stop f st') → Ex1G (.of g n 394) (for394 w) (ixS N P D i k z 0) f st' := fun R =>
    Ex1G_enum (n1 := (Str.ofString "number")) (n2 := (Str.ofString "row")) (by kernel_rfl) (runE_ev (p := rowsP N P D i k) (o := []) (ps := []) (by kernel_rfl) trivial) rfl (encode_glob _) (by kernel_rfl) (fun c W h m cs R => R) R
  cases hz : decide (z < qOf N P (i + j)) with
  | true =>
    have run : ∀ st : AS, runP g n 394 [(Str.ofString "rows"), (Str.ofString "spot")] [rowsP N P D i k, spotP z] [] [.st (.ret (.int j)) st] = some (.ret (.int j), st.cells, [Ex1G (.of g n 394) (for394 w) (ixS N P D i k z 0) (.ret (.int j)) st]) := by intro st; kernel_rfl
    refine (run_code (k := 0) (fn_394 _) (run (ixS N P D i k z (j + 1))) rfl ⟨lp (stop := j) fun c hc => ⟨fun m _ => nb_ix, fun m hm => by cases m <;> rfl, fun m q os ho hm hq => ?_, .inr ⟨hj, _, rfl, .int, nb_ix, by cases j <;> rfl, fun q os ho hq => ?_⟩⟩, trivial⟩ rfl (Nat.zero_le _) (Nat.zero_le _) rfl rfl).call
    · rw [Its.at_sq (by omega)] at hq; cases hq
      exact ix_step ho.1 (lt m hm) c hc
    · rw [Its.at_sq hj] at hq; cases hq
      exact ix_step ho.1 hz c hc
  | false =>
    have e : k = j + 1 := by
      have : ¬ i + j + 1 < N := fun q => by
        rw [qOf_in q] at hz; simp at hz; omega
      omega
    subst e
    have run : runP g n 394 [(Str.ofString "rows"), (Str.ofString "spot")] [rowsP N P D i (j + 1), spotP z] [] [.st .next (ixS N P D i (j + 1) z (j + 1))] = some (.ret (.int (((j + 1 : Nat) : Int) - 1)), [], [Ex1G (.of g n 394) (for394 w) (ixS N P D i (j + 1) z 0) .next (ixS N P D i (j + 1) z (j + 1)), j + 1 ≤ 1000]) := by kernel_rfl
    refine (run_code (k := 0) (fn_394 _) run rfl ⟨lp (stop := j + 1) fun c hc => ⟨fun m _ => nb_ix, fun m hm => by cases m <;> rfl, fun m q os ho hm hq => ?_, .inl ⟨rfl, rfl, rfl⟩⟩, by omega, trivial⟩ rfl (Nat.zero_le _) (Nat.zero_le _) rfl rfl).call.conv (int_eq (by push_cast; omega))
    rw [Its.at_sq (by omega)] at hq; cases hq
    have hb : decide (z < qOf N P (i + m)) = false := by
      by_cases hmj : m = j
      · rw [hmj]; exact hz
      · exact lt m (by omega)
    exact ix_step ho.1 hb c hc
/-! has_place -/
theorem a_has (hc : cs.length ≤ 100) (hk0 : 1 ≤ k) (hk9 : k ≤ 1000) : CallTo g (n + 5) 401 [viewP cs, rowsP N P D i k, .int z] [] (.bool (decide (P i ≤ z ∧ (z < qOf N P (i + (k - 1)) ∨ ¬ (i + (k - 1) + 1 < N))))) [] := by
  cases h1 : decide (z < P (i + Int.toNat 0)) with
  | true =>
    refine ((run_code (k := 0) (fn_401 _) (show runP g (n + 4) 401 [(Str.ofString "view"), (Str.ofString "rows"), (Str.ofString "place")] [viewP cs, rowsP N P D i k, .int z] [] [.call (spotP z) [.list []], .b true] = some (.ret (.bool false), [.list []], [k ≠ 0, CallTo g (n + 4) 387 [viewP cs, .int z] [.list []] (spotP z) [.list []], (0 : Int) ≤ 0 ∧ (0 : Int) < k ∧ (0 : Int) < 1000000, decide (z < P (i + Int.toNat 0)) = true]) by kernel_rfl) rfl ⟨by omega, (a_own_spot (n := n) hc).frame (by repeat' (first | exact NCL.nil | refine NCL.cons ?_ ?_ | exact NC.int | exact NC.bool | exact NC.sbool | exact NC.none | exact NC.any | exact NC.anyi | exact nc_view | exact nc_pane | exact nc_rowsP | exact nc_rowK | exact nc_opts | exact nc_table | exact nc_spot | assumption | refine NC.tup ?_ | refine NC.list ?_ | refine NC.inst ?_ | exact NCD.nil | refine NCD.cons ?_ ?_ | exact NC.str | exact NC.seq (fun _ => NC.int))), by omega, h1, trivial⟩ rfl (Nat.zero_le _) (Nat.zero_le _) rfl rfl).call).conv fun F ms v q => ?_
    have : decide (P i ≤ z ∧ (z < qOf N P (i + (k - 1)) ∨ ¬ (i + (k - 1) + 1 < N))) = false := by simp at h1 ⊢; omega
    rw [this]; exact q
  | false =>
    have h1' : P i ≤ z := by simpa using h1
    cases h2 : decide (z < qOf N P (i + (k - 1))) with
    | true =>
      refine ((run_code (k := 0) (fn_401 _) (show runP g (n + 4) 401 [(Str.ofString "view"), (Str.ofString "rows"), (Str.ofString "place")] [viewP cs, rowsP N P D i k, .int z] [] [.call (spotP z) [.list []], .b false, .call (spotP z) [.list []], .b true] = some (.ret (.sbool (decide (z < qOf N P (i + (k - 1))))), [.list []], [k ≠ 0, CallTo g (n + 4) 387 [viewP cs, .int z] [.list []] (spotP z) [.list []], (0 : Int) ≤ 0 ∧ (0 : Int) < k ∧ (0 : Int) < 1000000, decide (z < P (i + Int.toNat 0)) = false, CallTo g (n + 4) 387 [viewP cs, .int z] [.list []] (spotP z) [.list []], 0 < k ∧ k ≤ 1000, decide (z < qOf N P (i + (k - 1))) = true]) by kernel_rfl) rfl
        ⟨by omega, (a_own_spot (n := n) hc).frame (by repeat' (first | exact NCL.nil | refine NCL.cons ?_ ?_ | exact NC.int | exact NC.bool | exact NC.sbool | exact NC.none | exact NC.any | exact NC.anyi | exact nc_view | exact nc_pane | exact nc_rowsP | exact nc_rowK | exact nc_opts | exact nc_table | exact nc_spot | assumption | refine NC.tup ?_ | refine NC.list ?_ | refine NC.inst ?_ | exact NCD.nil | refine NCD.cons ?_ ?_ | exact NC.str | exact NC.seq (fun _ => NC.int))), by omega, h1, (a_own_spot (n := n) hc).frame (by repeat' (first | exact NCL.nil | refine NCL.cons ?_ ?_ | exact NC.int | exact NC.bool | exact NC.sbool | exact NC.none | exact NC.any | exact NC.anyi | exact nc_view | exact nc_pane | exact nc_rowsP | exact nc_rowK | exact nc_opts | exact nc_table | exact nc_spot | assumption | refine NC.tup ?_ | refine NC.list ?_ | refine NC.inst ?_ | exact NCD.nil | refine NCD.cons ?_ ?_ | exact NC.str | exact NC.seq (fun _ => NC.int))), by omega, h2, trivial⟩ rfl (Nat.zero_le _) (Nat.zero_le _) rfl rfl).call).conv (sb_bool ?_)
      rw [h2]
      have h2' : z < qOf N P (i + (k - 1)) := by simpa using h2
      simp [h1', h2']
    | false =>
      refine ((run_code (k := 0) (fn_401 _) (show runP g (n + 4) 401 [(Str.ofString "view"), (Str.ofString "rows"), (Str.ofString "place")] [viewP cs, rowsP N P D i k, .int z] [] [.call (spotP z) [.list []], .b false, .call (spotP z) [.list []], .b false] = some (.ret (.sbool (!decide (i + (k - 1) + 1 < N))), [.list []], [k ≠ 0, CallTo g (n + 4) 387 [viewP cs, .int z] [.list []] (spotP z) [.list []], (0 : Int) ≤ 0 ∧ (0 : Int) < k ∧ (0 : Int) < 1000000, decide (z < P (i + Int.toNat 0)) = false, CallTo g (n + 4) 387 [viewP cs, .int z] [.list []] (spotP z) [.list []], 0 < k ∧ k ≤ 1000, decide (z < qOf N P (i + (k - 1))) = false, 0 < k ∧ k ≤ 1000]) by kernel_rfl) rfl
        ⟨by omega, (a_own_spot (n := n) hc).frame (by repeat' (first | exact NCL.nil | refine NCL.cons ?_ ?_ | exact NC.int | exact NC.bool | exact NC.sbool | exact NC.none | exact NC.any | exact NC.anyi | exact nc_view | exact nc_pane | exact nc_rowsP | exact nc_rowK | exact nc_opts | exact nc_table | exact nc_spot | assumption | refine NC.tup ?_ | refine NC.list ?_ | refine NC.inst ?_ | exact NCD.nil | refine NCD.cons ?_ ?_ | exact NC.str | exact NC.seq (fun _ => NC.int))), by omega, h1, (a_own_spot (n := n) hc).frame (by repeat' (first | exact NCL.nil | refine NCL.cons ?_ ?_ | exact NC.int | exact NC.bool | exact NC.sbool | exact NC.none | exact NC.any | exact NC.anyi | exact nc_view | exact nc_pane | exact nc_rowsP | exact nc_rowK | exact nc_opts | exact nc_table | exact nc_spot | assumption | refine NC.tup ?_ | refine NC.list ?_ | refine NC.inst ?_ | exact NCD.nil | refine NCD.cons ?_ ?_ | exact NC.str | exact NC.seq (fun _ => NC.int))), by omega, h2, by omega, trivial⟩ rfl (Nat.zero_le _) (Nat.zero_le _) rfl rfl).call).conv (sb_bool ?_)
      have h2' : ¬ z < qOf N P (i + (k - 1)) := by simpa using h2
      have e : (P i ≤ z ∧ (z < qOf N P (i + (k - 1)) ∨ ¬ (i + (k - 1) + 1 < N))) ↔ ¬ (i + (k - 1) + 1 < N) := ⟨fun h => h.2.resolve_left h2', fun h => ⟨h1', .inr h⟩⟩
      rw [decide_eq_decide.mpr e, decide_not]
/-! column_in -/
noncomputable abbrev for408 (w : World) : Stmt := stAt (KK w) 408 0
noncomputable def clS (row : PV) (z p0 : Int) (m : Nat) : AS := match m with
  | 0 => ⟨[((Str.ofString "row"), row), ((Str.ofString "place"), .int z)], []⟩
  | m + 1 => ⟨[((Str.ofString "row"), row), ((Str.ofString "place"), .int z), ((Str.ofString "column"), .int m), ((Str.ofString "glyph"), glyP p0 m)], []⟩
theorem nb_cl {row : PV} (nr : NC row) {m : Nat} : NBS (clS row z p0 m) := by
  cases m with
  | zero => exact ⟨all_cons nr (all_cons .int all_nil), all_nil⟩
  | succ m => exact ⟨all_cons nr (all_cons .int (all_cons .int (all_cons nc_gly all_nil))), all_nil⟩
theorem cl_step {row : PV} {m : Nat} {os : List MO} {b : Bool} (ho : os.length = 2) (hb : decide (p0 + (m : Int) ≥ z) = b) :
    ExsG (.of g n 408) (whB (for408 w)) (tgt2 (Str.ofString "column") (Str.ofString "glyph") (.tup [.int m, glyP p0 m]) { clS row z p0 m with cells := (clS row z p0 m).cells ++ os }) (match b with | true => .ret (.int m) | false => .next) { clS row z p0 (m + 1) with cells := (clS row z p0 (m + 1)).cells ++ os } := by
  rcases os with _ | ⟨o1, _ | ⟨o2, _ | ⟨o3, os⟩⟩⟩ <;> try (simp at ho; done)
  have run : ∀ (m : Nat) (b : Bool), runB (.of g n 408) (whB (for408 w)) ⟨[((Str.ofString "row"), row), ((Str.ofString "place"), .int z), ((Str.ofString "column"), .int m), ((Str.ofString "glyph"), glyP p0 m)], [o1, o2]⟩ [.b true] = some (.ret (.int m), ⟨[((Str.ofString "row"), row), ((Str.ofString "place"), .int z), ((Str.ofString "column"), .int m), ((Str.ofString "glyph"), glyP p0 m)], [o1, o2]⟩, [decide (p0 + (m : Int) ≥ z) = true]) := by
    intro m b; kernel_rfl
  have run2 : ∀ (m : Nat) (b : Bool), runB (.of g n 408) (whB (for408 w)) ⟨[((Str.ofString "row"), row), ((Str.ofString "place"), .int z), ((Str.ofString "column"), .int m), ((Str.ofString "glyph"), glyP p0 m)], [o1, o2]⟩ [.b false] = some (.next, ⟨[((Str.ofString "row"), row), ((Str.ofString "place"), .int z), ((Str.ofString "column"), .int m), ((Str.ofString "glyph"), glyP p0 m)], [o1, o2]⟩, [decide (p0 + (m : Int) ≥ z) = false]) := by
    intro m b; kernel_rfl
  cases b with
  | true => cases m with
    | zero => exact runB_exs (run 0 true) ⟨hb, trivial⟩
    | succ m => exact runB_exs (run (m + 1) true) ⟨hb, trivial⟩
  | false => cases m with
    | zero => exact runB_exs (run2 0 true) ⟨hb, trivial⟩
    | succ m => exact runB_exs (run2 (m + 1) true) ⟨hb, trivial⟩
theorem int_any {a : Int} : ∀ F ms v, Is w F ms (.int a) v → Is w F ms .anyi v := fun F ms v i => by obtain ⟨t, rfl⟩ := i.int_inv; exact .anyi
theorem a_column (hd1 : d ≤ 100) {q : Int} {bk : Bool} : CallTo g (n + 1) 408 [rowP p0 q d bk, .int z] [] .anyi [] := by
  have nr : NC (rowP p0 q d bk) := nc_rowP
  have lp : ∀ {stop : Nat} {f : AF} {st' : AS}, (∀ c, (Cx.of g n 408).At c → ForR c (tgt2 (Str.ofString "column") (Str.ofString "glyph")) (whB (for408 w)) 2 (.sq d (glyP p0)) (fun i q => .tup [.int i, q]) (clS (rowP p0 q d bk) z p0) stop f st') → Ex1G (.of g n 408) (for408 w) (clS (rowP p0 q d bk) z p0 0) f st' := fun R =>
    Ex1G_enum (n1 := (Str.ofString "column")) (n2 := (Str.ofString "glyph")) (by kernel_rfl) (runE_ev (p := .seq d (glyP p0)) (o := []) (ps := []) (by kernel_rfl) trivial) rfl (encode_glob _) (by kernel_rfl) (fun c W h m cs R => R) R
  by_cases hz : (z - p0).toNat < d
  · have run : ∀ (m : Nat) (st : AS), runP g n 408 [(Str.ofString "row"), (Str.ofString "place")] [rowP p0 q d bk, .int z] [] [.st (.ret (.int m)) st] = some (.ret (.int m), st.cells, [Ex1G (.of g n 408) (for408 w) (clS (rowP p0 q d bk) z p0 0) (.ret (.int m)) st]) := by intro m st; kernel_rfl
    refine (run_code (k := 0) (fn_408 _) (run (z - p0).toNat (clS (rowP p0 q d bk) z p0 ((z - p0).toNat + 1))) rfl ⟨lp (stop := (z - p0).toNat) fun c hc => ⟨fun m _ => nb_cl nr, fun m hm => by cases m <;> rfl, fun m q' os ho hm hq => ?_, .inr ⟨hz, _, rfl, .int, nb_cl nr, by cases (z - p0).toNat <;> rfl, fun q' os ho hq => ?_⟩⟩, trivial⟩ rfl (Nat.zero_le _) (Nat.zero_le _) rfl rfl).call.conv int_any
    · rw [Its.at_sq (by omega)] at hq; cases hq
      exact cl_step ho.1 (show decide (p0 + (m : Int) ≥ z) = false by simp; omega) c hc
    · rw [Its.at_sq hz] at hq; cases hq
      exact cl_step ho.1 (show decide (p0 + ((z - p0).toNat : Int) ≥ z) = true by simp; omega) c hc
  · have run : runP g n 408 [(Str.ofString "row"), (Str.ofString "place")] [rowP p0 q d bk, .int z] [] [.st .next (clS (rowP p0 q d bk) z p0 d)] = some (.ret (.int d), (clS (rowP p0 q d bk) z p0 d).cells, [Ex1G (.of g n 408) (for408 w) (clS (rowP p0 q d bk) z p0 0) .next (clS (rowP p0 q d bk) z p0 d), d ≤ 1000]) := by
      cases d <;> kernel_rfl
    refine (run_code (k := 0) (fn_408 _) run rfl ⟨lp (stop := d) fun c hc => ⟨fun m _ => nb_cl nr, fun m hm => by cases m <;> rfl, fun m q' os ho hm hq => ?_, .inl ⟨rfl, rfl, rfl⟩⟩, by omega, trivial⟩ rfl (Nat.zero_le _) (Nat.zero_le _) rfl rfl).call.conv int_any
    rw [Its.at_sq (by omega)] at hq; cases hq
    exact cl_step ho.1 (show decide (p0 + (m : Int) ≥ z) = false by simp; omega) c hc
/-! cursor_in -/
theorem a_cursor_no (hc : cs.length ≤ 100) (hk0 : 1 ≤ k) (hk9 : k ≤ 1000) (hp : ¬ (P i ≤ z ∧ (z < qOf N P (i + (k - 1)) ∨ ¬ (i + (k - 1) + 1 < N)))) : CallTo g (n + 6) 415 [viewP cs, rowsP N P D i k, .int z] [] .none [] :=
  (run_code (k := 0) (fn_415 _) (show runP g (n + 5) 415 [(Str.ofString "view"), (Str.ofString "rows"), (Str.ofString "place")] [viewP cs, rowsP N P D i k, .int z] [] [.call (.bool false) []] = some (.ret .none, [], [CallTo g (n + 5) 401 [viewP cs, rowsP N P D i k, .int z] [] (.bool false) []]) by kernel_rfl) rfl
    ⟨(a_has (n := n) hc hk0 hk9).conv (fun F ms v q => by rw [decide_eq_false hp] at q; exact q), trivial⟩ rfl (Nat.zero_le _) (Nat.zero_le _) rfl rfl).call
theorem a_cursor_yes {j : Nat} (hc : cs.length ≤ 100) (hT : Text cs N P D) (hj : j < k) (hk : i + k ≤ N) (h1 : P (i + j) ≤ z) (h2 : z < P (i + j + 1)) (hD : ∀ m, m < N → D m ≤ 100) (hp : P i ≤ z ∧ (z < qOf N P (i + (k - 1)) ∨ ¬ (i + (k - 1) + 1 < N))) :
    CallTo g (n + 6) 415 [viewP cs, rowsP N P D i k, .int z] [] (.tup [.int j, .anyi]) [] := by
  have h9 := hT.nine
  exact (run_code (k := 0) (fn_415 _) (show runP g (n + 5) 415 [(Str.ofString "view"), (Str.ofString "rows"), (Str.ofString "place")] [viewP cs, rowsP N P D i k, .int z] [] [.call (.bool true) [], .call (spotP z) [], .call (.int j) [], .call (.int z) [], .call .anyi []] = some (.ret (.tup [.int j, .anyi]), [], [CallTo g (n + 5) 401 [viewP cs, rowsP N P D i k, .int z] [] (.bool true) [], CallTo g (n + 5) 387 [viewP cs, .int z] [] (spotP z) [], CallTo g (n + 5) 394 [rowsP N P D i k, spotP z] [] (.int j) [], (0 : Int) ≤ j ∧ (j : Int) < k ∧ (j : Int) < 1000000,
     CallTo g (n + 5) 211 [viewP cs, .int z] [] (.int z) [], CallTo g (n + 5) 408 [rowsF N P D i j, .int z] [] .anyi []]) by kernel_rfl) rfl
    ⟨(a_has (n := n) hc (by omega) (by omega)).conv (fun F ms v q => by rw [decide_eq_true hp] at q; exact q), a_own_spot (n := n + 1) hc, a_index (n := n + 4) hT hj hk h1 h2, by omega, a_shown_place (n := n + 3) hc, a_column (n := n + 4) (hD _ (by omega)), trivial⟩ rfl (Nat.zero_le _) (Nat.zero_le _) (by kernel_rfl) rfl).call
end

end
noncomputable section
/-! where a window begins, one row ahead, one row behind -/
theorem Text.sure {cs : List Int} {N : Nat} {P : Nat → Int} {D : Nat → Nat} (hT : Text cs N P D) {i : Nat} (hi : i < N) : P i < P (i + 1) := hT.lt (by omega) (by omega)
section
variable {w : World} {g : Gl w} {n : Nat} {cs : List Int} {N : Nat} {P : Nat → Int} {D : Nat → Nat} {i : Nat} {z c : Int}

theorem fn_422 (P : Params) : FnAt (hd.heap_39 P) 422 [(Str.ofString "view"), (Str.ofString "table"), (Str.ofString "place"), (Str.ofString "width"), (Str.ofString "options")] := ⟨by kernel_rfl, by kernel_rfl, by kernel_rfl, by decide +kernel, by rintro (_ | ⟨v0, _ | ⟨v1, _ | ⟨v2, _ | ⟨v3, _ | ⟨v4, _ | ⟨v5, vs⟩⟩⟩⟩⟩⟩) h <;> first | (simp at h; done) | kernel_rfl⟩
theorem fn_429 (P : Params) : FnAt (hd.heap_39 P) 429 [(Str.ofString "view"), (Str.ofString "table"), (Str.ofString "rows"), (Str.ofString "number"), (Str.ofString "width"), (Str.ofString "options")] := ⟨by kernel_rfl, by kernel_rfl, by kernel_rfl, by decide +kernel, by rintro (_ | ⟨v0, _ | ⟨v1, _ | ⟨v2, _ | ⟨v3, _ | ⟨v4, _ | ⟨v5, _ | ⟨v6, vs⟩⟩⟩⟩⟩⟩⟩) h <;> first | (simp at h; done) | kernel_rfl⟩
theorem fn_436 (P : Params) : FnAt (hd.heap_39 P) 436 [(Str.ofString "view"), (Str.ofString "table"), (Str.ofString "rows"), (Str.ofString "number"), (Str.ofString "width"), (Str.ofString "options")] := ⟨by kernel_rfl, by kernel_rfl, by kernel_rfl, by decide +kernel, by rintro (_ | ⟨v0, _ | ⟨v1, _ | ⟨v2, _ | ⟨v3, _ | ⟨v4, _ | ⟨v5, _ | ⟨v6, vs⟩⟩⟩⟩⟩⟩⟩) h <;> first | (simp at h; done) | kernel_rfl⟩
theorem fn_443 (P : Params) : FnAt (hd.heap_39 P) 443 [(Str.ofString "view"), (Str.ofString "table"), (Str.ofString "place"), (Str.ofString "count"), (Str.ofString "width"), (Str.ofString "options")] := ⟨by kernel_rfl, by kernel_rfl, by kernel_rfl, by decide +kernel, by rintro (_ | ⟨v0, _ | ⟨v1, _ | ⟨v2, _ | ⟨v3, _ | ⟨v4, _ | ⟨v5, _ | ⟨v6, vs⟩⟩⟩⟩⟩⟩⟩) h <;> first | (simp at h; done) | kernel_rfl⟩
theorem a_rows1 (hc : cs.length ≤ 100) (hT : Text cs N P D) (hi : i < N) : CallTo g (n + 15) 380 [viewP cs, tableP w, spotP (P i), .int 12, optsP] [] (rowsP N P D i 1) [] :=
  (a_rows_of hc hT hi).conv (list1_seq rfl)
theorem a_index0 (hT : Text cs N P D) (hi : i < N) (h1 : P i ≤ z) (h2 : z < P (i + 1)) : CallTo g (n + 1) 394 [rowsP N P D i 1, spotP z] [] (.int 0) [] :=
  (a_index (j := 0) hT (by omega) (by omega) h1 h2).conv (int_eq rfl)
theorem a_window_begin (hc : cs.length ≤ 100) (hT : Text cs N P D) (hi : i < N) : CallTo g (n + 16) 422 [viewP cs, tableP w, .int (P i), .int 12, optsP] [] (.tup [spotP (P i), .anyi]) [] :=
  (run_code (k := 0) (fn_422 _) (show runP g (n + 15) 422 [(Str.ofString "view"), (Str.ofString "table"), (Str.ofString "place"), (Str.ofString "width"), (Str.ofString "options")] [viewP cs, tableP w, .int (P i), .int 12, optsP] [] [.call (.int (P i)) [], .call (rowsP N P D i 1) [], .call (spotP (P i)) [], .call (.int 0) [], .b true] = some ((.ret (.tup [(spotP (P (i + (Int.toNat (0 : Int))))), .anyi])), [], [(CallTo g (n + 15) 373 [(viewP cs), (.int (P i))] [] (.int (P i)) []), (CallTo g (n + 15) 380 [(viewP cs), (tableP w), (.tup [(.int (P i)), (.int (0 : Int))]), (.int (12 : Int)), optsP] [] (rowsP N P D i 1) []), (CallTo g (n + 15) 387 [(viewP cs), (.int (P i))] [] (spotP (P i)) []), (CallTo g (n + 15) 394 [(rowsP N P D i 1), (spotP (P i))] [] (.int (0 : Int)) []), (((0 : Int) ≤ (0 : Int)) ∧ (((0 : Int) < (Nat.cast 1 : Int)) ∧ ((0 : Int) < (1000000 : Int)))), (((P (i + (Int.toNat (0 : Int)))) == (P i)) = true)]) by kernel_rfl) rfl
    ⟨a_line_begin (n := n + 11) hc hT hi (Int.le_refl _) (hT.sure hi), a_rows1 hc hT hi, a_own_spot (n := n + 11) hc, a_index0 (n := n + 14) hT hi (Int.le_refl _) (hT.sure hi), by omega, by simp, trivial⟩ rfl (Nat.zero_le _) (Nat.zero_le _) rfl rfl).call
theorem a_ahead_no (hc : cs.length ≤ 100) (hT : Text cs N P D) : CallTo g (n + 16) 429 [viewP cs, tableP w, rowsP N P D 0 1, .int 0, .int 12, optsP] [] .none [] :=
  have h0 := hT.one
  (run_code (k := 0) (fn_429 _) (show runP g (n + 15) 429 [(Str.ofString "view"), (Str.ofString "table"), (Str.ofString "rows"), (Str.ofString "number"), (Str.ofString "width"), (Str.ofString "options")] [viewP cs, tableP w, rowsP N P D 0 1, .int 0, .int 12, optsP] [] [.b false, .call (.int (P 0)) [], .call (.int 1) [], .b true] = some ((.ret .none), [], [((decide ((0 : Int) > (0 : Int))) = false), (((0 : Int) ≤ (0 : Int)) ∧ (((0 : Int) < (Nat.cast 1 : Int)) ∧ ((0 : Int) < (1000000 : Int)))), (CallTo g (n + 15) 373 [(viewP cs), (.int (P (0 + (Int.toNat (0 : Int)))))] [] (.int (P 0)) []), (CallTo g (n + 15) 113 [(viewP cs)] [] (.int (1 : Int)) []), ((decide ((P 0) ≤ (1 : Int))) = true)]) by kernel_rfl) rfl
    ⟨rfl, by omega, a_line_begin (n := n + 11) hc hT (i := 0) (by omega) (Int.le_refl _) (hT.sure (i := 0) (by omega)), a_begin (n := n + 14), by rw [hT.first]; rfl, trivial⟩ rfl (Nat.zero_le _) (Nat.zero_le _) rfl rfl).call
theorem a_ahead_to (hc : cs.length ≤ 100) (hT : Text cs N P D) (hi : i + 1 < N) : CallTo g (n + 16) 429 [viewP cs, tableP w, rowsP N P D (i + 1) 1, .int 0, .int 12, optsP] [] (.tup [rowsP N P D i 1, .int 0]) [] :=
  have h0 := hT.sure (i := i) (by omega)
  have h1 := hT.pos (i := i) (by omega)
  (run_code (k := 0) (fn_429 _) (show runP g (n + 15) 429 [(Str.ofString "view"), (Str.ofString "table"), (Str.ofString "rows"), (Str.ofString "number"), (Str.ofString "width"), (Str.ofString "options")] [viewP cs, tableP w, rowsP N P D (i + 1) 1, .int 0, .int 12, optsP] [] [.b false, .call (.int (P (i + 1))) [], .call (.int 1) [], .b false, .call (.int (P i)) [], .call (rowsP N P D i 1) []] = some ((.ret (.tup [(rowsP N P D i 1), (.int (0 : Int))])), [], [((decide ((0 : Int) > (0 : Int))) = false), (((0 : Int) ≤ (0 : Int)) ∧ (((0 : Int) < (Nat.cast 1 : Int)) ∧ ((0 : Int) < (1000000 : Int)))), (CallTo g (n + 15) 373 [(viewP cs), (.int (P ((i + 1) + (Int.toNat (0 : Int)))))] [] (.int (P (i + 1))) []), (CallTo g (n + 15) 113 [(viewP cs)] [] (.int (1 : Int)) []), ((decide ((P (i + 1)) ≤ (1 : Int))) = false), (CallTo g (n + 15) 373 [(viewP cs), (.int ((P (i + 1)) - (1 : Int)))] [] (.int (P i)) []), (CallTo g (n + 15) 380 [(viewP cs), (tableP w), (.tup [(.int (P i)), (.int (0 : Int))]), (.int (12 : Int)), optsP] [] (rowsP N P D i 1) []), (1 ≤ 1000)]) by kernel_rfl) rfl
    ⟨rfl, by omega, a_line_begin (n := n + 11) hc hT (i := i + 1) (by omega) (Int.le_refl _) (hT.sure (i := i + 1) (by omega)), a_begin (n := n + 14), by simp; omega, a_line_begin (n := n + 11) hc hT (i := i) (by omega) (by omega) (by omega), a_rows1 hc hT (by omega), by omega, trivial⟩ rfl (Nat.zero_le _) (Nat.zero_le _) rfl rfl).call
theorem a_behind_no (hi : i + 1 = N) : CallTo g (n + 16) 436 [viewP cs, tableP w, rowsP N P D i 1, .int 0, .int 12, optsP] [] .none [] :=
  (run_code (k := 0) (fn_436 _) (show runP g (n + 15) 436 [(Str.ofString "view"), (Str.ofString "table"), (Str.ofString "rows"), (Str.ofString "number"), (Str.ofString "width"), (Str.ofString "options")] [viewP cs, tableP w, rowsP N P D i 1, .int 0, .int 12, optsP] [] [.b false, .b true] = some ((.ret .none), [], [(1 ≤ 1000), ((decide ((0 : Int) < (0 : Int))) = false), ((0 < 1) ∧ (1 ≤ 1000)), ((Bool.not (decide (((i + 0) + 1) < N))) = true)]) by kernel_rfl) rfl
    ⟨by omega, rfl, by omega, by simp; omega, trivial⟩ rfl (Nat.zero_le _) (Nat.zero_le _) rfl rfl).call
theorem a_behind_to (hc : cs.length ≤ 100) (hT : Text cs N P D) (hi : i + 1 < N) : CallTo g (n + 16) 436 [viewP cs, tableP w, rowsP N P D i 1, .int 0, .int 12, optsP] [] (.tup [rowsP N P D (i + 1) 1, .int 0]) [] :=
  (run_code (k := 0) (fn_436 _) (show runP g (n + 15) 436 [(Str.ofString "view"), (Str.ofString "table"), (Str.ofString "rows"), (Str.ofString "number"), (Str.ofString "width"), (Str.ofString "options")] [viewP cs, tableP w, rowsP N P D i 1, .int 0, .int 12, optsP] [] [.b false, .b false, .call (rowsP N P D (i + 1) 1) []] = some ((.ret (.tup [(rowsP N P D (i + 1) 1), (.int (0 : Int))])), [], [(1 ≤ 1000), ((decide ((0 : Int) < (0 : Int))) = false), ((0 < 1) ∧ (1 ≤ 1000)), ((Bool.not (decide (((i + 0) + 1) < N))) = false), ((0 < 1) ∧ (1 ≤ 1000)), (CallTo g (n + 15) 380 [(viewP cs), (tableP w), (spotP (qOf N P (i + (1 - 1)))), (.int (12 : Int)), optsP] [] (rowsP N P D (i + 1) 1) [])]) by kernel_rfl) rfl
    ⟨by omega, rfl, by omega, by simp; omega, by omega, (a_rows1 (i := i + 1) hc hT hi).args (fun F ms vs l => by
      rcases l with _ | ⟨i1, _ | ⟨i2, _ | ⟨i3, l⟩⟩⟩
      refine .cons i1 (.cons i2 (.cons ?_ l))
      rw [Nat.sub_self, Nat.add_zero, qOf_in hi] at i3; exact i3), trivial⟩ rfl (Nat.zero_le _) (Nat.zero_le _) rfl rfl).call
end

end
noncomputable section
/-! vertical_motion -/
theorem lk_app {x : Str} {p : PV} {r l : List (Str × PV)} (e : lk x l = some p) : lk x (l ++ r) = some p := by
  induction l with
  | nil => cases e
  | cons y l ih =>
    show cond (strEq x y.1) (some y.2) (lk x (l ++ r)) = some p
    have e : cond (strEq x y.1) (some y.2) (lk x l) = some p := e
    cases hs : strEq x y.1 with
    | true => rw [hs] at e; exact e
    | false => rw [hs] at e; exact ih e
theorem ExsG.forget {w : World} {x : Cx w} {b : List Stmt} {st : AS} {f : AF} {l r : List (Str × PV)} {cells : List MO} (h : ExsG x b st f ⟨l ++ r, cells⟩) : ExsG x b st f ⟨l, cells⟩ := fun c hc W g tk R Q k =>
  h c hc W g tk R Q fun W' v g' tk' le ⟨m, cs, X⟩ i => k W' v g' tk' le ⟨m, cs, { X with loc := fun x p e => X.loc x p (lk_app e) }⟩ i
--DEFS
noncomputable abbrev whl443 (w : World) : Stmt := stAt (KK w) 443 2
noncomputable def vmS (w : World) (cs : List Int) (N : Nat) (P : Nat → Int) (D : Nat → Nat) (z c : Int) (j : Nat) (gone : Int) : AS :=
  ⟨[((Str.ofString "view"), viewP cs), ((Str.ofString "table"), tableP w), ((Str.ofString "place"), .int z), ((Str.ofString "count"), .int c), ((Str.ofString "width"), .int 12), ((Str.ofString "options"), optsP), ((Str.ofString "rows"), rowsP N P D j 1), ((Str.ofString "gone"), .int gone), ((Str.ofString "number"), .int 0)], []⟩
--END
section
variable {w : World} {g : Gl w} {n : Nat} {cs : List Int} {N : Nat} {P : Nat → Int} {D : Nat → Nat} {i : Nat} {z c : Int}
theorem vm_test {j : Nat} {gone : Int} {b : Bool} (hb : (gone != c) = b) : TsG (.of g n 443) (whT (whl443 w)) (vmS w cs N P D z c j gone) b (vmS w cs N P D z c j gone) :=
  runT_ts (o := [.b b]) (show runT (.of g n 443) (whT (whl443 w)) (vmS w cs N P D z c j gone) _ = some (b, vmS w cs N P D z c j gone, [(gone != c) = b]) by kernel_rfl) ⟨hb, trivial⟩
theorem vm_up (hc : cs.length ≤ 100) (hT : Text cs N P D) {j : Nat} {gone : Int} (hj : j + 1 < N) (h0 : 0 < c) : ExsG (.of g (n + 16) 443) (whB (whl443 w)) (vmS w cs N P D z c j gone) .next (vmS w cs N P D z c (j + 1) (gone + 1)) :=
  ExsG.forget (r := [((Str.ofString "step"), .glob (.ref 436)), ((Str.ofString "found"), .tup [rowsP N P D (j + 1) 1, .int 0])]) (runB_exs (o := [.b true, .call (.tup [rowsP N P D (j + 1) 1, .int 0]) [], .b true]) (show runB (.of g (n + 16) 443) (whB (whl443 w)) (vmS w cs N P D z c j gone) _ = some (.next, ⟨(vmS w cs N P D z c (j + 1) (gone + 1)).loc ++ [((Str.ofString "step"), .glob (.ref 436)), ((Str.ofString "found"), .tup [rowsP N P D (j + 1) 1, .int 0])], []⟩, [decide (c > 0) = true, CallTo g (n + 16) 436 [viewP cs, tableP w, rowsP N P D j 1, .int 0, .int 12, optsP] [] (.tup [rowsP N P D (j + 1) 1, .int 0]) [], decide (c > 0) = true]) by kernel_rfl)
    ⟨by simp; omega, a_behind_to (n := n) hc hT hj, by simp; omega, trivial⟩)
theorem vm_down (hc : cs.length ≤ 100) (hT : Text cs N P D) {j : Nat} {gone : Int} (hj : j + 1 < N) (h0 : c < 0) : ExsG (.of g (n + 16) 443) (whB (whl443 w)) (vmS w cs N P D z c (j + 1) gone) .next (vmS w cs N P D z c j (gone + -1)) :=
  ExsG.forget (r := [((Str.ofString "step"), .glob (.ref 429)), ((Str.ofString "found"), .tup [rowsP N P D j 1, .int 0])]) (runB_exs (o := [.b false, .call (.tup [rowsP N P D j 1, .int 0]) [], .b false]) (show runB (.of g (n + 16) 443) (whB (whl443 w)) (vmS w cs N P D z c (j + 1) gone) _ = some (.next, ⟨(vmS w cs N P D z c j (gone + -1)).loc ++ [((Str.ofString "step"), .glob (.ref 429)), ((Str.ofString "found"), .tup [rowsP N P D j 1, .int 0])], []⟩, [decide (c > 0) = false, CallTo g (n + 16) 429 [viewP cs, tableP w, rowsP N P D (j + 1) 1, .int 0, .int 12, optsP] [] (.tup [rowsP N P D j 1, .int 0]) [], decide (c > 0) = false]) by kernel_rfl)
    ⟨by simp; omega, a_ahead_to (n := n) hc hT hj, by simp; omega, trivial⟩)
theorem vm_uend {j : Nat} {gone : Int} (hj : j + 1 = N) (h0 : 0 < c) : ExsG (.of g (n + 16) 443) (whB (whl443 w)) (vmS w cs N P D z c j gone) (.ret (.tup [.int (P j), .int gone])) ⟨(vmS w cs N P D z c j gone).loc ++ [((Str.ofString "step"), .glob (.ref 436)), ((Str.ofString "found"), .none)], []⟩ :=
  runB_exs (o := [.b true, .call .none []]) (show runB (.of g (n + 16) 443) (whB (whl443 w)) (vmS w cs N P D z c j gone) _ = some (.ret (.tup [.int (P j), .int gone]), ⟨(vmS w cs N P D z c j gone).loc ++ [((Str.ofString "step"), .glob (.ref 436)), ((Str.ofString "found"), .none)], []⟩, [decide (c > 0) = true, CallTo g (n + 16) 436 [viewP cs, tableP w, rowsP N P D j 1, .int 0, .int 12, optsP] [] .none [], (0 : Int) ≤ 0 ∧ (0 : Int) < (1 : Nat) ∧ (0 : Int) < 1000000]) by kernel_rfl)
    ⟨by simp; omega, a_behind_no (n := n) hj, by omega, trivial⟩
theorem vm_dend (hc : cs.length ≤ 100) (hT : Text cs N P D) {gone : Int} (h0 : c < 0) : ExsG (.of g (n + 16) 443) (whB (whl443 w)) (vmS w cs N P D z c 0 gone) (.ret (.tup [.int (P 0), .int gone])) ⟨(vmS w cs N P D z c 0 gone).loc ++ [((Str.ofString "step"), .glob (.ref 429)), ((Str.ofString "found"), .none)], []⟩ :=
  runB_exs (o := [.b false, .call .none []]) (show runB (.of g (n + 16) 443) (whB (whl443 w)) (vmS w cs N P D z c 0 gone) _ = some (.ret (.tup [.int (P 0), .int gone]), ⟨(vmS w cs N P D z c 0 gone).loc ++ [((Str.ofString "step"), .glob (.ref 429)), ((Str.ofString "found"), .none)], []⟩, [decide (c > 0) = false, CallTo g (n + 16) 429 [viewP cs, tableP w, rowsP N P D 0 1, .int 0, .int 12, optsP] [] .none [], (0 : Int) ≤ 0 ∧ (0 : Int) < (1 : Nat) ∧ (0 : Int) < 1000000]) by kernel_rfl)
    ⟨by simp; omega, a_ahead_no (n := n) hc hT, by omega, trivial⟩

theorem mo_up_in (hc : cs.length ≤ 100) (hT : Text cs N P D) :
    ∀ (m j : Nat) (gone : Int), j + m < N → c = gone + m → 0 ≤ gone → WhlG (.of g (n + 16) 443) (whT (whl443 w)) (whB (whl443 w)) (vmS w cs N P D z c j gone) .next (vmS w cs N P D z c (j + m) c)
  | 0, j, gone, hj, e, _ => by
    obtain rfl : c = gone := by simpa using e
    exact WhlG_no (vm_test (by simp))
  | m + 1, j, gone, hj, e, hg => by
    have := mo_up_in hc hT m (j + 1) (gone + 1) (by omega) (by push_cast at e; omega) (by omega)
    rw [show j + 1 + m = j + (m + 1) by omega] at this
    exact WhlG_next (vm_test (by simp; omega)) (vm_up hc hT (by omega) (by omega)) this
theorem mo_up_out (hc : cs.length ≤ 100) (hT : Text cs N P D) :
    ∀ (m j : Nat) (gone : Int), j + m + 1 = N → gone + m < c → 0 ≤ gone → WhlG (.of g (n + 16) 443) (whT (whl443 w)) (whB (whl443 w)) (vmS w cs N P D z c j gone) (.ret (.tup [.int (P (j + m)), .int (gone + m)])) ⟨(vmS w cs N P D z c (j + m) (gone + m)).loc ++ [((Str.ofString "step"), .glob (.ref 436)), ((Str.ofString "found"), .none)], []⟩
  | 0, j, gone, hj, e, _ => by
    have := vm_uend (w := w) (g := g) (n := n) (cs := cs) (P := P) (D := D) (z := z) (c := c) (gone := gone + (0 : Nat)) hj (by omega)
    rw [show gone + ((0 : Nat) : Int) = gone by simp] at this ⊢
    exact WhlG_ret (vm_test (by simp; omega)) this
  | m + 1, j, gone, hj, e, hg => by
    have := mo_up_out hc hT m (j + 1) (gone + 1) (by omega) (by push_cast at e; omega) (by omega)
    rw [show j + 1 + m = j + (m + 1) by omega, show gone + 1 + (m : Int) = gone + ((m + 1 : Nat) : Int) by push_cast; omega] at this
    exact WhlG_next (vm_test (by simp; omega)) (vm_up hc hT (by omega) (by omega)) this
theorem mo_down_in (hc : cs.length ≤ 100) (hT : Text cs N P D) :
    ∀ (m j : Nat) (gone : Int), j + m < N → c = gone - m → gone ≤ 0 → WhlG (.of g (n + 16) 443) (whT (whl443 w)) (whB (whl443 w)) (vmS w cs N P D z c (j + m) gone) .next (vmS w cs N P D z c j c)
  | 0, j, gone, hj, e, _ => by
    obtain rfl : c = gone := by simpa using e
    exact WhlG_no (vm_test (by simp))
  | m + 1, j, gone, hj, e, hg => 
    WhlG_next (vm_test (by simp; omega)) (vm_down (j := j + m) hc hT hj (by omega)) (mo_down_in hc hT m j (gone + -1) (by omega) (by push_cast at e; omega) (by omega))
theorem mo_down_out (hc : cs.length ≤ 100) (hT : Text cs N P D) :
    ∀ (j : Nat) (gone : Int), j < N → c < gone - j → gone ≤ 0 → WhlG (.of g (n + 16) 443) (whT (whl443 w)) (whB (whl443 w)) (vmS w cs N P D z c j gone) (.ret (.tup [.int (P 0), .int (gone - j)])) ⟨(vmS w cs N P D z c 0 (gone - j)).loc ++ [((Str.ofString "step"), .glob (.ref 429)), ((Str.ofString "found"), .none)], []⟩
  | 0, gone, hj, e, hg => by
    have := vm_dend (w := w) (g := g) (n := n) (z := z) (c := c) (gone := gone) hc hT (by omega)
    rw [show gone - ((0 : Nat) : Int) = gone by simp]
    exact WhlG_ret (vm_test (by simp; omega)) this
  | j + 1, gone, hj, e, hg => by
    have := mo_down_out hc hT j (gone + -1) (by omega) (by push_cast at e; omega) (by omega)
    rw [show gone + -1 - (j : Int) = gone - ((j + 1 : Nat) : Int) by push_cast; omega] at this
    exact WhlG_next (vm_test (by simp; omega)) (vm_down hc hT hj (by omega)) this
theorem mo_any {a b : Int} : ∀ F ms v, Is w F ms (.tup [.int a, .int b]) v → Is w F ms (.tup [.int a, .anyi]) v := fun F ms v i => by
  obtain ⟨a, m, vs, rfl, f, l⟩ := i.tup_inv
  obtain ⟨_, _, rfl, i1, i2⟩ := l.two_inv
  obtain ⟨t, rfl⟩ := i2.int_inv
  exact .tup f (.cons i1 (.cons .anyi .nil))
theorem a_motion_to {J : Nat} {gone : Int} (hc : cs.length ≤ 100) (hT : Text cs N P D) (hi : i < N) (h1 : P i ≤ z) (h2 : z < P (i + 1))
    (h : WhlG (.of g (n + 16) 443) (whT (whl443 w)) (whB (whl443 w)) (vmS w cs N P D z c i 0) .next (vmS w cs N P D z c J gone)) : CallTo g (n + 17) 443 [viewP cs, tableP w, .int z, .int c, .int 12, optsP] [] (.tup [.int (P J), .anyi]) [] :=
  (run_code (k := 0) (fn_443 _) (show runP g (n + 16) 443 [(Str.ofString "view"), (Str.ofString "table"), (Str.ofString "place"), (Str.ofString "count"), (Str.ofString "width"), (Str.ofString "options")] [viewP cs, tableP w, .int z, .int c, .int 12, optsP] [] [.call (.int (P i)) [], .call (rowsP N P D i 1) [], .call (spotP z) [], .call (.int 0) [], .st .next (vmS w cs N P D z c J gone)] = some ((.ret (.tup [(.int (P (J + (Int.toNat (0 : Int))))), (.int gone)])), [], [(CallTo g (n + 16) 373 [(viewP cs), (.int z)] [] (.int (P i)) []), (CallTo g (n + 16) 380 [(viewP cs), (tableP w), (.tup [(.int (P i)), (.int (0 : Int))]), (.int (12 : Int)), optsP] [] (rowsP N P D i 1) []), (CallTo g (n + 16) 387 [(viewP cs), (.int z)] [] (spotP z) []), (CallTo g (n + 16) 394 [(rowsP N P D i 1), (spotP z)] [] (.int (0 : Int)) []), (Ex1G (.of g (n + 16) 443) (whl443 w) ⟨[((Str.ofString "view"), (viewP cs)), ((Str.ofString "table"), (tableP w)), ((Str.ofString "place"), (.int z)), ((Str.ofString "count"), (.int c)), ((Str.ofString "width"), (.int (12 : Int))), ((Str.ofString "options"), optsP), ((Str.ofString "rows"), (rowsP N P D i 1)), ((Str.ofString "gone"), (.int (0 : Int))), ((Str.ofString "number"), (.int (0 : Int)))], []⟩ .next ⟨[((Str.ofString "view"), (viewP cs)), ((Str.ofString "table"), (tableP w)), ((Str.ofString "place"), (.int z)), ((Str.ofString "count"), (.int c)), ((Str.ofString "width"), (.int (12 : Int))), ((Str.ofString "options"), optsP), ((Str.ofString "rows"), (rowsP N P D J 1)), ((Str.ofString "gone"), (.int gone)), ((Str.ofString "number"), (.int (0 : Int)))], []⟩), (((0 : Int) ≤ (0 : Int)) ∧ (((0 : Int) < (Nat.cast 1 : Int)) ∧ ((0 : Int) < (1000000 : Int))))]) by kernel_rfl) rfl
    ⟨a_line_begin (n := n + 12) hc hT hi h1 h2, a_rows1 (n := n + 1) hc hT hi, a_own_spot (n := n + 12) hc, a_index0 (n := n + 15) hT hi h1 h2, Ex1G_whl (by kernel_rfl) h, by omega, trivial⟩ rfl (Nat.zero_le _) (Nat.zero_le _) rfl rfl).call.conv mo_any
theorem a_motion_ret {J : Nat} {gone : Int} {r : PV} (hc : cs.length ≤ 100) (hT : Text cs N P D) (hi : i < N) (h1 : P i ≤ z) (h2 : z < P (i + 1))
    (h : WhlG (.of g (n + 16) 443) (whT (whl443 w)) (whB (whl443 w)) (vmS w cs N P D z c i 0) (.ret (.tup [.int (P J), .int gone])) ⟨(vmS w cs N P D z c J gone).loc ++ [((Str.ofString "step"), r), ((Str.ofString "found"), .none)], []⟩) : CallTo g (n + 17) 443 [viewP cs, tableP w, .int z, .int c, .int 12, optsP] [] (.tup [.int (P J), .anyi]) [] :=
  (run_code (k := 0) (fn_443 _) (show runP g (n + 16) 443 [(Str.ofString "view"), (Str.ofString "table"), (Str.ofString "place"), (Str.ofString "count"), (Str.ofString "width"), (Str.ofString "options")] [viewP cs, tableP w, .int z, .int c, .int 12, optsP] [] [.call (.int (P i)) [], .call (rowsP N P D i 1) [], .call (spotP z) [], .call (.int 0) [], .st (.ret (.tup [.int (P J), .int gone])) ⟨(vmS w cs N P D z c J gone).loc ++ [((Str.ofString "step"), r), ((Str.ofString "found"), .none)], []⟩] = some ((.ret (.tup [(.int (P J)), (.int gone)])), [], [(CallTo g (n + 16) 373 [(viewP cs), (.int z)] [] (.int (P i)) []), (CallTo g (n + 16) 380 [(viewP cs), (tableP w), (.tup [(.int (P i)), (.int (0 : Int))]), (.int (12 : Int)), optsP] [] (rowsP N P D i 1) []), (CallTo g (n + 16) 387 [(viewP cs), (.int z)] [] (spotP z) []), (CallTo g (n + 16) 394 [(rowsP N P D i 1), (spotP z)] [] (.int (0 : Int)) []), (Ex1G (.of g (n + 16) 443) (whl443 w) ⟨[((Str.ofString "view"), (viewP cs)), ((Str.ofString "table"), (tableP w)), ((Str.ofString "place"), (.int z)), ((Str.ofString "count"), (.int c)), ((Str.ofString "width"), (.int (12 : Int))), ((Str.ofString "options"), optsP), ((Str.ofString "rows"), (rowsP N P D i 1)), ((Str.ofString "gone"), (.int (0 : Int))), ((Str.ofString "number"), (.int (0 : Int)))], []⟩ (.ret (.tup [(.int (P J)), (.int gone)])) ⟨[((Str.ofString "view"), (viewP cs)), ((Str.ofString "table"), (tableP w)), ((Str.ofString "place"), (.int z)), ((Str.ofString "count"), (.int c)), ((Str.ofString "width"), (.int (12 : Int))), ((Str.ofString "options"), optsP), ((Str.ofString "rows"), (rowsP N P D J 1)), ((Str.ofString "gone"), (.int gone)), ((Str.ofString "number"), (.int (0 : Int))), ((Str.ofString "step"), r), ((Str.ofString "found"), .none)], []⟩)]) by kernel_rfl) rfl
    ⟨a_line_begin (n := n + 12) hc hT hi h1 h2, a_rows1 (n := n + 1) hc hT hi, a_own_spot (n := n + 12) hc, a_index0 (n := n + 15) hT hi h1 h2, Ex1G_whl (by kernel_rfl) h, trivial⟩ rfl (Nat.zero_le _) (Nat.zero_le _) rfl rfl).call.conv mo_any
theorem a_motion (hc : cs.length ≤ 100) (hT : Text cs N P D) (hi : i < N) (h1 : P i ≤ z) (h2 : z < P (i + 1)) : CallTo g (n + 17) 443 [viewP cs, tableP w, .int z, .int c, .int 12, optsP] [] (.tup [.int (P (lineOn N i c)), .anyi]) [] := by
  by_cases h0 : 0 ≤ c
  · by_cases h : i + c.toNat < N
    · rw [show lineOn N i c = i + c.toNat by unfold lineOn; omega]
      exact a_motion_to hc hT hi h1 h2 (mo_up_in hc hT c.toNat i 0 h (by omega) (by omega))
    · rw [show lineOn N i c = i + (N - 1 - i) by unfold lineOn; omega]
      exact a_motion_ret hc hT hi h1 h2 (mo_up_out hc hT (N - 1 - i) i 0 (by omega) (by omega) (by omega))
  · by_cases h : (-c).toNat ≤ i
    · rw [show lineOn N i c = i - (-c).toNat by unfold lineOn; omega]
      refine a_motion_to (gone := c) hc hT hi h1 h2 ?_
      have := mo_down_in (w := w) (g := g) (n := n) (cs := cs) (c := c) (z := z) hc hT (-c).toNat (i - (-c).toNat) 0 (by omega) (by omega) (by omega)
      rwa [show i - (-c).toNat + (-c).toNat = i by omega] at this
    · rw [show lineOn N i c = 0 by unfold lineOn; omega]
      exact a_motion_ret hc hT hi h1 h2 (mo_down_out hc hT i 0 hi (by omega) (by omega))
end

end
noncomputable section
/-! panes -/
--DEFS
noncomputable def rulesP : PV := .inst 461 [((Str.ofString "margin"), .int 0), ((Str.ofString "few"), .int 0)]
noncomputable def paneP (w : World) (cs : List Int) (high : Nat) : PV := .inst 496 [((Str.ofString "view"), viewP cs), ((Str.ofString "table"), tableP w), ((Str.ofString "height"), .int high), ((Str.ofString "width"), .int 12), ((Str.ofString "options"), optsP), ((Str.ofString "rules"), rulesP)]
--END
theorem nc_rules : NC rulesP := .inst (NCD.cons .int (NCD.cons .int NCD.nil))
theorem nc_pane {w : World} {cs : List Int} {high : Nat} : NC (paneP w cs high) := .inst (NCD.cons nc_view (NCD.cons nc_table (NCD.cons .int (NCD.cons .int (NCD.cons nc_opts (NCD.cons nc_rules NCD.nil))))))
section
variable {w : World} {g : Gl w} {n : Nat} {cs : List Int} {N : Nat} {P : Nat → Int} {D : Nat → Nat} {i j high : Nat} {z c kp : Int}

theorem fn_486 (P : Params) : FnAt (hd.heap_39 P) 486 [(Str.ofString "self"), (Str.ofString "start")] := ⟨by kernel_rfl, by kernel_rfl, by kernel_rfl, by decide +kernel, by rintro (_ | ⟨v0, _ | ⟨v1, _ | ⟨v2, vs⟩⟩⟩) h <;> first | (simp at h; done) | kernel_rfl⟩
theorem fn_493 (P : Params) : FnAt (hd.heap_39 P) 493 [(Str.ofString "self"), (Str.ofString "place"), (Str.ofString "count")] := ⟨by kernel_rfl, by kernel_rfl, by kernel_rfl, by decide +kernel, by rintro (_ | ⟨v0, _ | ⟨v1, _ | ⟨v2, _ | ⟨v3, vs⟩⟩⟩⟩) h <;> first | (simp at h; done) | kernel_rfl⟩
theorem fn_507 (P : Params) : FnAt (hd.heap_39 P) 507 [(Str.ofString "pane"), (Str.ofString "point"), (Str.ofString "line")] := ⟨by kernel_rfl, by kernel_rfl, by kernel_rfl, by decide +kernel, by rintro (_ | ⟨v0, _ | ⟨v1, _ | ⟨v2, _ | ⟨v3, vs⟩⟩⟩⟩) h <;> first | (simp at h; done) | kernel_rfl⟩
theorem fn_514 (P : Params) : FnAt (hd.heap_39 P) 514 [(Str.ofString "pane"), (Str.ofString "start"), (Str.ofString "point"), (Str.ofString "count")] := ⟨by kernel_rfl, by kernel_rfl, by kernel_rfl, by decide +kernel, by rintro (_ | ⟨v0, _ | ⟨v1, _ | ⟨v2, _ | ⟨v3, _ | ⟨v4, vs⟩⟩⟩⟩⟩) h <;> first | (simp at h; done) | kernel_rfl⟩
theorem fn_521 (P : Params) : FnAt (hd.heap_39 P) 521 [(Str.ofString "pane"), (Str.ofString "kept")] := ⟨by kernel_rfl, by kernel_rfl, by kernel_rfl, by decide +kernel, by rintro (_ | ⟨v0, _ | ⟨v1, _ | ⟨v2, vs⟩⟩⟩) h <;> first | (simp at h; done) | kernel_rfl⟩
theorem a_moved (hc : cs.length ≤ 100) (hT : Text cs N P D) (hi : i < N) (h1 : P i ≤ z) (h2 : z < P (i + 1)) : CallTo g (n + 18) 493 [paneP w cs high, .int z, .int c] [] (.int (P (lineOn N i c))) [] :=
  (run_code (k := 0) (fn_493 _) (show runP g (n + 17) 493 [(Str.ofString "self"), (Str.ofString "place"), (Str.ofString "count")] [paneP w cs high, .int z, .int c] [] [.call (.tup [.int (P (lineOn N i c)), .anyi]) []] = some ((.ret (.int (P (lineOn N i c)))), [], [(CallTo g (n + 17) 443 [(viewP cs), (tableP w), (.int z), (.int c), (.int (12 : Int)), optsP] [] (.tup [(.int (P (lineOn N i c))), .anyi]) [])]) by kernel_rfl) rfl
    ⟨a_motion (n := n) hc hT hi h1 h2, trivial⟩ rfl (Nat.zero_le _) (Nat.zero_le _) rfl rfl).call
theorem a_rows_from (hc : cs.length ≤ 100) (hT : Text cs N P D) (hi : i < N) (hh : 1 ≤ high) : CallTo g (n + 17) 486 [paneP w cs high, .int (P i)] [] (rowsP N P D i (min high (N - i))) [] :=
  (run_code (k := 0) (fn_486 _) (show runP g (n + 16) 486 [(Str.ofString "self"), (Str.ofString "start")] [paneP w cs high, .int (P i)] [] [.call (.tup [spotP (P i), .anyi]) [], .call (rowsP N P D i (min high (N - i))) []] = some ((.ret (rowsP N P D i (Min.min high (N - i)))), [], [(CallTo g (n + 16) 422 [(viewP cs), (tableP w), (.int (P i)), (.int (12 : Int)), optsP] [] (.tup [(spotP (P i)), .anyi]) []), (CallTo g (n + 16) 366 [(viewP cs), (tableP w), (spotP (P i)), .anyi, (.int (Nat.cast high : Int)), (.int (12 : Int)), optsP] [] (rowsP N P D i (Min.min high (N - i))) [])]) by kernel_rfl) rfl
    ⟨a_window_begin (n := n) hc hT hi, a_laid_rows (n := n + 1) hc hT hi hh, trivial⟩ rfl (Nat.zero_le _) (Nat.zero_le _) rfl rfl).call
theorem a_recentered (hc : cs.length ≤ 100) (hT : Text cs N P D) (hi : i < N) (h1 : P i ≤ z) (h2 : z < P (i + 1)) : CallTo g (n + 19) 507 [paneP w cs high, .int z, .int c] [] (.int (P (lineOn N i (0 - c)))) [] :=
  (run_code (k := 0) (fn_507 _) (show runP g (n + 18) 507 [(Str.ofString "pane"), (Str.ofString "point"), (Str.ofString "line")] [paneP w cs high, .int z, .int c] [] [.call (.int (P (lineOn N i (0 - c)))) []] = some ((.ret (.int (P (lineOn N i ((0 : Int) - c))))), [], [(CallTo g (n + 18) 493 [(paneP w cs high), (.int z), (.int ((0 : Int) - c))] [] (.int (P (lineOn N i ((0 : Int) - c)))) [])]) by kernel_rfl) rfl
    ⟨a_moved (n := n) hc hT hi h1 h2, trivial⟩ rfl (Nat.zero_le _) (Nat.zero_le _) rfl rfl).call
theorem a_screen_rows : CallTo g (n + 1) 521 [paneP w cs high, .int kp] [] (.int (max 1 ((high : Int) - kp))) [] :=
  (run_code (k := 0) (fn_521 _) (show runP g n 521 [(Str.ofString "pane"), (Str.ofString "kept")] [paneP w cs high, .int kp] [] [] = some ((.ret (.int (Max.max (1 : Int) ((Nat.cast high : Int) - kp)))), [], []) by kernel_rfl) rfl
    trivial rfl (Nat.zero_le _) (Nat.zero_le _) rfl rfl).call
theorem a_scr_in {k : Nat} (hc : cs.length ≤ 100) (hT : Text cs N P D) (hi : i < N) (hh : 1 ≤ high) (hj : lineOn N i c = j) (hjN : j < N) (p : PV) (hp : CallTo g (n + 18) 415 [viewP cs, rowsP N P D j (min high (N - j)), .int z] [] (.tup [.int k, p]) []) :
    CallTo g (n + 19) 514 [paneP w cs high, .int (P i), .int z, .int c] [] (.tup [.int (P j), .int z]) [] :=
  have h0 := hT.sure hi
  (run_code (k := 0) (fn_514 _) (show runP g (n + 18) 514 [(Str.ofString "pane"), (Str.ofString "start"), (Str.ofString "point"), (Str.ofString "count")] [paneP w cs high, .int (P i), .int z, .int c] [] [.call (.int (P j)) [], .call (rowsP N P D j (min high (N - j))) [], .call (.tup [.int k, p]) []] = some ((.ret (.tup [(.int (P j)), (.int z)])), [], [(CallTo g (n + 18) 493 [(paneP w cs high), (.int (P i)), (.int c)] [] (.int (P j)) []), (CallTo g (n + 18) 486 [(paneP w cs high), (.int (P j))] [] (rowsP N P D j (Min.min high (N - j))) []), (CallTo g (n + 18) 415 [(viewP cs), (rowsP N P D j (Min.min high (N - j))), (.int z)] [] (.tup [(.int (Nat.cast k : Int)), p]) [])]) by kernel_rfl) rfl
    ⟨hj ▸ a_moved (n := n) hc hT hi (Int.le_refl _) h0, a_rows_from (n := n + 1) hc hT hjN hh, hp, trivial⟩ rfl (Nat.zero_le _) (Nat.zero_le _) rfl rfl).call
theorem a_scr_up (hc : cs.length ≤ 100) (hT : Text cs N P D) (hi : i < N) (hh : 1 ≤ high) (hj : lineOn N i c = j) (hjN : j < N) (hz : z < P j) (hp : CallTo g (n + 18) 415 [viewP cs, rowsP N P D j (min high (N - j)), .int z] [] .none []) :
    CallTo g (n + 19) 514 [paneP w cs high, .int (P i), .int z, .int c] [] (.tup [.int (P j), .int (P j)]) [] :=
  have h0 := hT.sure hi
  (run_code (k := 0) (fn_514 _) (show runP g (n + 18) 514 [(Str.ofString "pane"), (Str.ofString "start"), (Str.ofString "point"), (Str.ofString "count")] [paneP w cs high, .int (P i), .int z, .int c] [] [.call (.int (P j)) [], .call (rowsP N P D j (min high (N - j))) [], .call .none [], .call (spotP z) [], .b true] = some ((.ret (.tup [(.int (P j)), (.int (P (j + (Int.toNat (0 : Int)))))])), [], [(CallTo g (n + 18) 493 [(paneP w cs high), (.int (P i)), (.int c)] [] (.int (P j)) []), (CallTo g (n + 18) 486 [(paneP w cs high), (.int (P j))] [] (rowsP N P D j (Min.min high (N - j))) []), (CallTo g (n + 18) 415 [(viewP cs), (rowsP N P D j (Min.min high (N - j))), (.int z)] [] .none []), (CallTo g (n + 18) 387 [(viewP cs), (.int z)] [] (spotP z) []), (((0 : Int) ≤ (0 : Int)) ∧ (((0 : Int) < (Nat.cast (Min.min high (N - j)) : Int)) ∧ ((0 : Int) < (1000000 : Int)))), ((decide (z < (P (j + (Int.toNat (0 : Int)))))) = true), (((0 : Int) ≤ (0 : Int)) ∧ (((0 : Int) < (Nat.cast (Min.min high (N - j)) : Int)) ∧ ((0 : Int) < (1000000 : Int))))]) by kernel_rfl) rfl
    ⟨hj ▸ a_moved (n := n) hc hT hi (Int.le_refl _) h0, a_rows_from (n := n + 1) hc hT hjN hh, hp, a_own_spot (n := n + 14) hc, by omega, by simpa using hz, by omega, trivial⟩ rfl (Nat.zero_le _) (Nat.zero_le _) rfl rfl).call
theorem a_scr_down (hc : cs.length ≤ 100) (hT : Text cs N P D) (hi : i < N) (hh : 1 ≤ high) (hj : lineOn N i c = j) (hjN : j < N) (hz : ¬ z < P j) (hp : CallTo g (n + 18) 415 [viewP cs, rowsP N P D j (min high (N - j)), .int z] [] .none []) :
    CallTo g (n + 19) 514 [paneP w cs high, .int (P i), .int z, .int c] [] (.tup [.int (P j), .int (P (j + (min high (N - j) - 1)))]) [] :=
  have h0 := hT.sure hi
  have h9 := hT.nine
  (run_code (k := 0) (fn_514 _) (show runP g (n + 18) 514 [(Str.ofString "pane"), (Str.ofString "start"), (Str.ofString "point"), (Str.ofString "count")] [paneP w cs high, .int (P i), .int z, .int c] [] [.call (.int (P j)) [], .call (rowsP N P D j (min high (N - j))) [], .call .none [], .call (spotP z) [], .b false] = some ((.ret (.tup [(.int (P j)), (.int (P (j + ((Min.min high (N - j)) - 1))))])), [], [(CallTo g (n + 18) 493 [(paneP w cs high), (.int (P i)), (.int c)] [] (.int (P j)) []), (CallTo g (n + 18) 486 [(paneP w cs high), (.int (P j))] [] (rowsP N P D j (Min.min high (N - j))) []), (CallTo g (n + 18) 415 [(viewP cs), (rowsP N P D j (Min.min high (N - j))), (.int z)] [] .none []), (CallTo g (n + 18) 387 [(viewP cs), (.int z)] [] (spotP z) []), (((0 : Int) ≤ (0 : Int)) ∧ (((0 : Int) < (Nat.cast (Min.min high (N - j)) : Int)) ∧ ((0 : Int) < (1000000 : Int)))), ((decide (z < (P (j + (Int.toNat (0 : Int)))))) = false), ((0 < (Min.min high (N - j))) ∧ ((Min.min high (N - j)) ≤ 1000))]) by kernel_rfl) rfl
    ⟨hj ▸ a_moved (n := n) hc hT hi (Int.le_refl _) h0, a_rows_from (n := n + 1) hc hT hjN hh, hp, a_own_spot (n := n + 14) hc, by omega, by simpa using hz, by omega, trivial⟩ rfl (Nat.zero_le _) (Nat.zero_le _) rfl rfl).call
theorem a_scrolled (hc : cs.length ≤ 100) (hT : Text cs N P D) (hD : ∀ m, m < N → D m ≤ 100) (hi : i < N) (hh : 1 ≤ high) (hz1 : 1 ≤ z) (hz2 : z < P N) :
    CallTo g (n + 19) 514 [paneP w cs high, .int (P i), .int z, .int c] [] (.tup [.int (P (lineOn N i c)), .int (shownPt N P (lineOn N i c) high z)]) [] := by
  have h9 := hT.nine
  have hjN : lineOn N i c < N := by unfold lineOn; omega
  generalize hj : lineOn N i c = j at hjN ⊢
  have ek : j + min high (N - j) - 1 = j + (min high (N - j) - 1) := by omega
  have el : (j + min high (N - j) = N) ↔ ¬ (j + (min high (N - j) - 1) + 1 < N) := by omega
  unfold shownPt
  by_cases h : P j ≤ z ∧ (z < qOf N P (j + min high (N - j) - 1) ∨ j + min high (N - j) = N)
  · rw [if_pos h]
    have h' := h
    rw [ek, el] at h'
    obtain ⟨m, hm, hm1, hm2⟩ := hT.line hz1 hz2
    have hjm : j ≤ m := by
      by_cases q : m < j
      · have := hT.le (i := m + 1) (j := j) (by omega) (by omega)
        omega
      · omega
    have hmk : m - j < min high (N - j) := by
      by_cases q : j + min high (N - j) ≤ m
      · have q2 : j + min high (N - j) < N := by omega
        rcases h.2 with h3 | h3
        · rw [qOf_in (by omega)] at h3
          have := hT.le (i := j + min high (N - j) - 1 + 1) (j := m) (by omega) (by omega)
          omega
        · omega
      · omega
    exact a_scr_in (k := m - j) hc hT hi hh hj hjN _ (a_cursor_yes (n := n + 12) hc hT hmk (by omega) (by rw [show j + (m - j) = m by omega]; exact hm1) (by rw [show j + (m - j) = m by omega]; exact hm2) hD h')
  · rw [if_neg h]
    have h' := h
    rw [ek, el] at h'
    have hno := a_cursor_no (w := w) (g := g) (n := n + 12) (D := D) hc (k := min high (N - j)) (by omega) (by omega) h'
    by_cases q : z < P j
    · rw [if_pos q]; exact a_scr_up hc hT hi hh hj hjN q hno
    · rw [if_neg q, ek]; exact a_scr_down hc hT hi hh hj hjN q hno
end

end
noncomputable section
/-! recenter, line_to_point, Turns -/
--DEFS
/-- the row that is meant by a line of a window -/
noncomputable def rowOf (high : Nat) (ln : Int) : Int := min (max (if ln < 0 then (high : Int) + ln else ln) 0) ((high : Int) - 1)
noncomputable def turnsD (t : Int) : MO := .dict [((Str.ofString "turn"), .int t), ((Str.ofString "margin"), .int 0)]
--END
section
variable {w : World} {g : Gl w} {n : Nat} {cs : List Int} {N : Nat} {P : Nat → Int} {D : Nat → Nat} {i k high : Nat} {z ln : Int}

theorem fn_544 (P : Params) : FnAt (hd.heap_39 P) 544 [(Str.ofString "pane"), (Str.ofString "point"), (Str.ofString "line")] := ⟨by kernel_rfl, by kernel_rfl, by kernel_rfl, by decide +kernel, by rintro (_ | ⟨v0, _ | ⟨v1, _ | ⟨v2, _ | ⟨v3, vs⟩⟩⟩⟩) h <;> first | (simp at h; done) | kernel_rfl⟩
theorem fn_566 (P : Params) : FnAt (hd.heap_39 P) 566 [(Str.ofString "self")] := ⟨by kernel_rfl, by kernel_rfl, by kernel_rfl, by decide +kernel, by rintro (_ | ⟨v0, _ | ⟨v1, vs⟩⟩) h <;> first | (simp at h; done) | kernel_rfl⟩
theorem fn_573 (P : Params) : FnAt (hd.heap_39 P) 573 [(Str.ofString "self"), (Str.ofString "pane"), (Str.ofString "point")] := ⟨by kernel_rfl, by kernel_rfl, by kernel_rfl, by decide +kernel, by rintro (_ | ⟨v0, _ | ⟨v1, _ | ⟨v2, _ | ⟨v3, vs⟩⟩⟩⟩) h <;> first | (simp at h; done) | kernel_rfl⟩
theorem fn_587 (P : Params) : FnAt (hd.heap_39 P) 587 [(Str.ofString "pane"), (Str.ofString "start"), (Str.ofString "line")] := ⟨by kernel_rfl, by kernel_rfl, by kernel_rfl, by decide +kernel, by rintro (_ | ⟨v0, _ | ⟨v1, _ | ⟨v2, _ | ⟨v3, vs⟩⟩⟩⟩) h <;> first | (simp at h; done) | kernel_rfl⟩
theorem pylong_no {x : Int} : Builtin.divisionGoesByPylong x 2 = false := by kernel_rfl
theorem a_recenter_any {x r : Int} (e : x = r) (h : CallTo g (n + 19) 507 [paneP w cs high, .int z, .int x] [] (.int (P (lineOn N i (0 - x)))) []) : CallTo g (n + 19) 507 [paneP w cs high, .int z, .int x] [] (.int (P (lineOn N i (0 - r)))) [] := e ▸ h
theorem a_recenter (hc : cs.length ≤ 100) (hT : Text cs N P D) (hi : i < N) (h1 : P i ≤ z) (h2 : z < P (i + 1)) : CallTo g (n + 20) 544 [paneP w cs high, .int z, .int ln] [] (.int (P (lineOn N i (0 - rowOf high ln)))) [] := by
  by_cases h : ln < 0
  · exact (run_code (k := 0) (fn_544 _) (show runP g (n + 19) 544 [(Str.ofString "pane"), (Str.ofString "point"), (Str.ofString "line")] [paneP w cs high, .int z, .int ln] [] [.b true, .call (.int (P (lineOn N i (0 - rowOf high ln)))) []] = some ((.ret (.int (P (lineOn N i ((0 : Int) - (rowOf high ln)))))), [], [((decide (ln < (0 : Int))) = true), (CallTo g (n + 19) 507 [(paneP w cs high), (.int z), (.int (Min.min (Max.max ((Nat.cast high : Int) + ln) (0 : Int)) ((Nat.cast high : Int) - (1 : Int))))] [] (.int (P (lineOn N i ((0 : Int) - (rowOf high ln))))) [])]) by kernel_rfl) rfl
      ⟨by simpa using h, a_recenter_any (by unfold rowOf; rw [if_pos h]) (a_recentered (n := n) hc hT hi h1 h2), trivial⟩ rfl (Nat.zero_le _) (Nat.zero_le _) rfl rfl).call
  · exact (run_code (k := 0) (fn_544 _) (show runP g (n + 19) 544 [(Str.ofString "pane"), (Str.ofString "point"), (Str.ofString "line")] [paneP w cs high, .int z, .int ln] [] [.b false, .call (.int (P (lineOn N i (0 - rowOf high ln)))) []] = some ((.ret (.int (P (lineOn N i ((0 : Int) - (rowOf high ln)))))), [], [((decide (ln < (0 : Int))) = false), (CallTo g (n + 19) 507 [(paneP w cs high), (.int z), (.int (Min.min (Max.max ln (0 : Int)) ((Nat.cast high : Int) - (1 : Int))))] [] (.int (P (lineOn N i ((0 : Int) - (rowOf high ln))))) [])]) by kernel_rfl) rfl
      ⟨by simpa using h, a_recenter_any (by unfold rowOf; rw [if_neg h]) (a_recentered (n := n) hc hT hi h1 h2), trivial⟩ rfl (Nat.zero_le _) (Nat.zero_le _) rfl rfl).call
theorem a_recenter_none (hc : cs.length ≤ 100) (hT : Text cs N P D) (hi : i < N) (h1 : P i ≤ z) (h2 : z < P (i + 1)) (hh : high < 1000) : CallTo g (n + 20) 544 [paneP w cs high, .int z, .none] [] (.int (P (lineOn N i (0 - rowOf high ((high : Int).fdiv 2))))) [] :=
  have hf : (high : Int).fdiv 2 = (high : Int) / 2 := Int.fdiv_eq_ediv_of_nonneg _ (by decide)
  (run_code (k := 0) (fn_544 _) (show runP g (n + 19) 544 [(Str.ofString "pane"), (Str.ofString "point"), (Str.ofString "line")] [paneP w cs high, .int z, .none] [] [.b false, .call (.int (P (lineOn N i (0 - rowOf high ((high : Int).fdiv 2))))) []] = some ((.ret (.int (P (lineOn N i ((0 : Int) - (rowOf high (Int.fdiv (Nat.cast high : Int) (2 : Int)))))))), [], [((2 : Int) ≠ (0 : Int)), ((PySem.Builtin.divisionGoesByPylong (Nat.cast high : Int) (2 : Int)) = false), ((decide ((Int.fdiv (Nat.cast high : Int) (2 : Int)) < (0 : Int))) = false), (CallTo g (n + 19) 507 [(paneP w cs high), (.int z), (.int (Min.min (Max.max (Int.fdiv (Nat.cast high : Int) (2 : Int)) (0 : Int)) ((Nat.cast high : Int) - (1 : Int))))] [] (.int (P (lineOn N i ((0 : Int) - (rowOf high (Int.fdiv (Nat.cast high : Int) (2 : Int))))))) [])]) by kernel_rfl) rfl
      ⟨by decide, pylong_no, by simp; omega, a_recenter_any (by unfold rowOf; rw [if_neg (by omega)]) (a_recentered (n := n) hc hT hi h1 h2), trivial⟩ rfl (Nat.zero_le _) (Nat.zero_le _) rfl rfl).call
theorem a_line_to (hc : cs.length ≤ 100) (hT : Text cs N P D) (hi : i < N) (hk : min high (N - i) = k) (hh : 1 ≤ high) : CallTo g (n + 18) 587 [paneP w cs high, .int (P i), .int ln] [] (.int (P (i + (rowOf k ln).toNat))) [] := by
  have h9 := hT.nine
  by_cases h : ln < 0
  · exact ((run_code (k := 0) (fn_587 _) (show runP g (n + 17) 587 [(Str.ofString "pane"), (Str.ofString "start"), (Str.ofString "line")] [paneP w cs high, .int (P i), .int ln] [] [.call (rowsP N P D i k) [], .b true] = some ((.ret (.int (P (i + (Int.toNat (Min.min (Max.max ((Nat.cast k : Int) + ln) (0 : Int)) ((Nat.cast k : Int) - (1 : Int)))))))), [], [(CallTo g (n + 17) 486 [(paneP w cs high), (.int (P i))] [] (rowsP N P D i k) []), ((decide (ln < (0 : Int))) = true), (k ≤ 1000), (k ≤ 1000), (((0 : Int) ≤ (Min.min (Max.max ((Nat.cast k : Int) + ln) (0 : Int)) ((Nat.cast k : Int) - (1 : Int)))) ∧ (((Min.min (Max.max ((Nat.cast k : Int) + ln) (0 : Int)) ((Nat.cast k : Int) - (1 : Int))) < (Nat.cast k : Int)) ∧ ((Min.min (Max.max ((Nat.cast k : Int) + ln) (0 : Int)) ((Nat.cast k : Int) - (1 : Int))) < (1000000 : Int))))]) by kernel_rfl) rfl
      ⟨hk ▸ a_rows_from (n := n) hc hT hi hh, by simpa using h, by omega, by omega, by omega, trivial⟩ rfl (Nat.zero_le _) (Nat.zero_le _) rfl rfl).call).conv (int_eq (by unfold rowOf; rw [if_pos h]))
  · exact ((run_code (k := 0) (fn_587 _) (show runP g (n + 17) 587 [(Str.ofString "pane"), (Str.ofString "start"), (Str.ofString "line")] [paneP w cs high, .int (P i), .int ln] [] [.call (rowsP N P D i k) [], .b false] = some ((.ret (.int (P (i + (Int.toNat (Min.min (Max.max ln (0 : Int)) ((Nat.cast k : Int) - (1 : Int)))))))), [], [(CallTo g (n + 17) 486 [(paneP w cs high), (.int (P i))] [] (rowsP N P D i k) []), ((decide (ln < (0 : Int))) = false), (k ≤ 1000), (((0 : Int) ≤ (Min.min (Max.max ln (0 : Int)) ((Nat.cast k : Int) - (1 : Int)))) ∧ (((Min.min (Max.max ln (0 : Int)) ((Nat.cast k : Int) - (1 : Int))) < (Nat.cast k : Int)) ∧ ((Min.min (Max.max ln (0 : Int)) ((Nat.cast k : Int) - (1 : Int))) < (1000000 : Int))))]) by kernel_rfl) rfl
      ⟨hk ▸ a_rows_from (n := n) hc hT hi hh, by simpa using h, by omega, by omega, trivial⟩ rfl (Nat.zero_le _) (Nat.zero_le _) rfl rfl).call).conv (int_eq (by unfold rowOf; rw [if_neg h]))
theorem a_line_to_none (hc : cs.length ≤ 100) (hT : Text cs N P D) (hi : i < N) (hk : min high (N - i) = k) (hh : 1 ≤ high) : CallTo g (n + 18) 587 [paneP w cs high, .int (P i), .none] [] (.int (P (i + (rowOf k ((k : Int).fdiv 2)).toNat))) [] :=
  have h9 := hT.nine
  have hf : (k : Int).fdiv 2 = (k : Int) / 2 := Int.fdiv_eq_ediv_of_nonneg _ (by decide)
  ((run_code (k := 0) (fn_587 _) (show runP g (n + 17) 587 [(Str.ofString "pane"), (Str.ofString "start"), (Str.ofString "line")] [paneP w cs high, .int (P i), .none] [] [.call (rowsP N P D i k) [], .b false] = some ((.ret (.int (P (i + (Int.toNat (Min.min (Max.max (Int.fdiv (Nat.cast k : Int) (2 : Int)) (0 : Int)) ((Nat.cast k : Int) - (1 : Int)))))))), [], [(CallTo g (n + 17) 486 [(paneP w cs high), (.int (P i))] [] (rowsP N P D i k) []), (k ≤ 1000), ((2 : Int) ≠ (0 : Int)), ((PySem.Builtin.divisionGoesByPylong (Nat.cast k : Int) (2 : Int)) = false), ((decide ((Int.fdiv (Nat.cast k : Int) (2 : Int)) < (0 : Int))) = false), (k ≤ 1000), (((0 : Int) ≤ (Min.min (Max.max (Int.fdiv (Nat.cast k : Int) (2 : Int)) (0 : Int)) ((Nat.cast k : Int) - (1 : Int)))) ∧ (((Min.min (Max.max (Int.fdiv (Nat.cast k : Int) (2 : Int)) (0 : Int)) ((Nat.cast k : Int) - (1 : Int))) < (Nat.cast k : Int)) ∧ ((Min.min (Max.max (Int.fdiv (Nat.cast k : Int) (2 : Int)) (0 : Int)) ((Nat.cast k : Int) - (1 : Int))) < (1000000 : Int))))]) by kernel_rfl) rfl
      ⟨hk ▸ a_rows_from (n := n) hc hT hi hh, by omega, by decide, pylong_no, by simp; omega, by omega, by omega, trivial⟩ rfl (Nat.zero_le _) (Nat.zero_le _) rfl rfl).call).conv (int_eq (by unfold rowOf; rw [if_neg (by omega)]))
theorem a_turns_begin {t : Int} : CallTo g (n + 1) 566 [.mob 576 0] [turnsD t] .none [turnsD 0] :=
  (run_code (k := 1) (fn_566 _) (show runP g n 566 [(Str.ofString "self")] [.mob 576 0] [turnsD t] [] = some (.next, [(.dict [((Str.ofString "turn"), (.int (0 : Int))), ((Str.ofString "margin"), (.int (0 : Int)))])], []) by kernel_rfl) rfl trivial rfl (Nat.le_refl _) (Nat.le_refl _) rfl rfl).call
theorem a_turn0 (hc : cs.length ≤ 100) (hT : Text cs N P D) (hi : i < N) (h1 : P i ≤ z) (h2 : z < P (i + 1)) (hh : high < 1000) : CallTo g (n + 21) 573 [.mob 576 0, paneP w cs high, .int z] [turnsD 0] (.int (P (lineOn N i (0 - rowOf high ((high : Int).fdiv 2))))) [turnsD 1] :=
  (run_code (k := 1) (fn_573 _) (show runP g (n + 20) 573 [(Str.ofString "self"), (Str.ofString "pane"), (Str.ofString "point")] [.mob 576 0, paneP w cs high, .int z] [turnsD 0] [.call (.int (P (lineOn N i (0 - rowOf high ((high : Int).fdiv 2))))) [turnsD 1, .list [.none, .int 0, .int (-1 - 0)]]] = some ((.ret (.int (P (lineOn N i ((0 : Int) - (rowOf high (Int.fdiv (Nat.cast high : Int) (2 : Int)))))))), [(.dict [((Str.ofString "turn"), (.int (1 : Int))), ((Str.ofString "margin"), (.int (0 : Int)))]), (.list [.none, (.int (0 : Int)), (.int (Neg.neg (1 : Int)))])], [((3 : Int) ≠ (0 : Int)), (CallTo g (n + 20) 544 [(paneP w cs high), (.int z), .none] [(.dict [((Str.ofString "turn"), (.int (1 : Int))), ((Str.ofString "margin"), (.int (0 : Int)))]), (.list [.none, (.int (0 : Int)), (.int (Neg.neg (1 : Int)))])] (.int (P (lineOn N i ((0 : Int) - (rowOf high (Int.fdiv (Nat.cast high : Int) (2 : Int))))))) [(.dict [((Str.ofString "turn"), (.int (1 : Int))), ((Str.ofString "margin"), (.int (0 : Int)))]), (.list [.none, (.int (0 : Int)), (.int (Neg.neg (1 : Int)))])])]) by kernel_rfl) rfl
   ⟨by decide, (a_recenter_none (n := n) hc hT hi h1 h2 hh).frame (by repeat' (first | exact NCL.nil | refine NCL.cons ?_ ?_ | exact NC.int | exact NC.bool | exact NC.sbool | exact NC.none | exact NC.any | exact NC.anyi | exact nc_view | exact nc_pane | exact nc_rowsP | exact nc_rowK | exact nc_opts | exact nc_table | exact nc_spot | assumption | refine NC.tup ?_ | refine NC.list ?_ | refine NC.inst ?_ | exact NCD.nil | refine NCD.cons ?_ ?_ | exact NC.str | exact NC.seq (fun _ => NC.int))), trivial⟩ rfl (by decide) (by decide) rfl rfl).call
theorem a_turn1 (hc : cs.length ≤ 100) (hT : Text cs N P D) (hi : i < N) (h1 : P i ≤ z) (h2 : z < P (i + 1)) : CallTo g (n + 21) 573 [.mob 576 0, paneP w cs high, .int z] [turnsD 1] (.int (P (lineOn N i (0 - rowOf high 0)))) [turnsD 2] :=
  (run_code (k := 1) (fn_573 _) (show runP g (n + 20) 573 [(Str.ofString "self"), (Str.ofString "pane"), (Str.ofString "point")] [.mob 576 0, paneP w cs high, .int z] [turnsD 1] [.call (.int (P (lineOn N i (0 - rowOf high 0)))) [turnsD 2, .list [.none, .int 0, .int (-1 - 0)]]] = some ((.ret (.int (P (lineOn N i ((0 : Int) - (rowOf high (0 : Int))))))), [(.dict [((Str.ofString "turn"), (.int (2 : Int))), ((Str.ofString "margin"), (.int (0 : Int)))]), (.list [.none, (.int (0 : Int)), (.int (Neg.neg (1 : Int)))])], [((3 : Int) ≠ (0 : Int)), (CallTo g (n + 20) 544 [(paneP w cs high), (.int z), (.int (0 : Int))] [(.dict [((Str.ofString "turn"), (.int (2 : Int))), ((Str.ofString "margin"), (.int (0 : Int)))]), (.list [.none, (.int (0 : Int)), (.int (Neg.neg (1 : Int)))])] (.int (P (lineOn N i ((0 : Int) - (rowOf high (0 : Int)))))) [(.dict [((Str.ofString "turn"), (.int (2 : Int))), ((Str.ofString "margin"), (.int (0 : Int)))]), (.list [.none, (.int (0 : Int)), (.int (Neg.neg (1 : Int)))])])]) by kernel_rfl) rfl
   ⟨by decide, (a_recenter (n := n) hc hT hi h1 h2).frame (by repeat' (first | exact NCL.nil | refine NCL.cons ?_ ?_ | exact NC.int | exact NC.bool | exact NC.sbool | exact NC.none | exact NC.any | exact NC.anyi | exact nc_view | exact nc_pane | exact nc_rowsP | exact nc_rowK | exact nc_opts | exact nc_table | exact nc_spot | assumption | refine NC.tup ?_ | refine NC.list ?_ | refine NC.inst ?_ | exact NCD.nil | refine NCD.cons ?_ ?_ | exact NC.str | exact NC.seq (fun _ => NC.int))), trivial⟩ rfl (by decide) (by decide) rfl rfl).call
theorem a_turn2 (hc : cs.length ≤ 100) (hT : Text cs N P D) (hi : i < N) (h1 : P i ≤ z) (h2 : z < P (i + 1)) : CallTo g (n + 21) 573 [.mob 576 0, paneP w cs high, .int z] [turnsD 2] (.int (P (lineOn N i (0 - rowOf high (-1))))) [turnsD 0] :=
  (run_code (k := 1) (fn_573 _) (show runP g (n + 20) 573 [(Str.ofString "self"), (Str.ofString "pane"), (Str.ofString "point")] [.mob 576 0, paneP w cs high, .int z] [turnsD 2] [.call (.int (P (lineOn N i (0 - rowOf high (-1))))) [turnsD 0, .list [.none, .int 0, .int (-1 - 0)]]] = some ((.ret (.int (P (lineOn N i ((0 : Int) - (rowOf high (Neg.neg (1 : Int)))))))), [(.dict [((Str.ofString "turn"), (.int (0 : Int))), ((Str.ofString "margin"), (.int (0 : Int)))]), (.list [.none, (.int (0 : Int)), (.int (Neg.neg (1 : Int)))])], [((3 : Int) ≠ (0 : Int)), (CallTo g (n + 20) 544 [(paneP w cs high), (.int z), (.int (Neg.neg (1 : Int)))] [(.dict [((Str.ofString "turn"), (.int (0 : Int))), ((Str.ofString "margin"), (.int (0 : Int)))]), (.list [.none, (.int (0 : Int)), (.int (Neg.neg (1 : Int)))])] (.int (P (lineOn N i ((0 : Int) - (rowOf high (Neg.neg (1 : Int))))))) [(.dict [((Str.ofString "turn"), (.int (0 : Int))), ((Str.ofString "margin"), (.int (0 : Int)))]), (.list [.none, (.int (0 : Int)), (.int (Neg.neg (1 : Int)))])])]) by kernel_rfl) rfl
   ⟨by decide, (a_recenter (n := n) (ln := -1) hc hT hi h1 h2).frame (by repeat' (first | exact NCL.nil | refine NCL.cons ?_ ?_ | exact NC.int | exact NC.bool | exact NC.sbool | exact NC.none | exact NC.any | exact NC.anyi | exact nc_view | exact nc_pane | exact nc_rowsP | exact nc_rowK | exact nc_opts | exact nc_table | exact nc_spot | assumption | refine NC.tup ?_ | refine NC.list ?_ | refine NC.inst ?_ | exact NCD.nil | refine NCD.cons ?_ ?_ | exact NC.str | exact NC.seq (fun _ => NC.int))), trivial⟩ rfl (by decide) (by decide) rfl rfl).call
end

end
noncomputable section
/-! the classes' makers -/
theorem ds_of {K : Frag} {T : Addr} {ds : List Value} (h : (match K.lookup T with | some o => (match o.data with | .seq its _ => its.toList | _ => []) | none => []) = ds) (hne : ds.isEmpty = false) : ∃ o n, K.lookup T = some o ∧ o.data = .seq ds.toArray n := by
  split at h
  · rename_i o e
    split at h
    · rename_i its m hd
      exact ⟨o, m, e, by rw [hd, ← h]⟩
    · subst h; cases hne
  · subst h; cases hne
section
variable {w : World} {g : Gl w} {n f : Nat} {cs : List Int} {high C : Nat} {args : List PV} {cells cs1 : List MO} {p : PV} {fs : List (Str × PV)}
/-- one new object, whatever the cells -/
theorem CallTo.frame1 (h : CallTo g n f args [] (.mob C 0) [.dict fs]) (hn : NCL args) (hf : NCD fs) : CallTo g n f args cells (.mob C cells.length) (cells ++ [.dict fs]) := fun A h0 tk gs dr os F cs vs S Q kQ => by
  have up := hide_sub (h := h0) (l := cs.map (·.1)) (l' := []) fun _ h => nomatch h
  refine h A h0 tk gs dr os F [] vs ⟨fun a o q => up _ _ (S.hF a o q), ⟨fun p hp => (nomatch hp), .nil, rfl, fun i mo e => (nil_get e).elim⟩, S.sur.mono up, hn.is S.args⟩ Q fun v h' tk' tl cs' ex D iv => ?_
  obtain ⟨d, o, e1, im⟩ := D.cells.is 0 _ rfl
  have ec : cs' = [(d, o)] := by
    cases cs' with
    | nil => cases e1
    | cons x r =>
      cases e1
      cases r with
      | nil => rfl
      | cons y r => cases D.cells.len
  subst ec
  obtain rfl : ex = [d] := D.ms.symm
  have hd := (D.fresh d (.head _)).1
  have nd : d ∉ cs.map (·.1) := fun hm => by
    obtain ⟨p, hp, e⟩ := List.mem_map.mp hm
    have := S.cells.at_ p hp
    rw [e, hd] at this; cases this
  have em : (cs ++ [(d, o)]).map (·.1) = cs.map (·.1) ++ [d] := List.map_append
  obtain ⟨a, d', rfl, f1, e2⟩ := iv.mob_inv
  obtain rfl : d = d' := by cases e2; rfl
  refine kQ _ h' tk' tl (cs ++ [(d, o)]) [d] ⟨fun b o _ e => D.keep b o (fun h => nomatch h) e, D.new, em, D.fresh, fun p hp => ?_, by rw [em]; exact nodup_snoc S.cells.nodup nd, by rw [List.length_append, List.length_append, S.cells.len]; rfl, fun i mo e => ?_⟩ (.mob f1 (by rw [em, S.cells.len, List.getElem?_append_right (by rw [List.length_map]; exact Nat.le_refl _), List.length_map, Nat.sub_self]; rfl))
  · rcases List.mem_append.mp hp with hp | hp
    · exact D.keep _ _ (fun h => nomatch h) (S.cells.at_ p hp)
    · exact D.cells.at_ p hp
  · rcases get_snoc e with e | ⟨rfl, rfl⟩
    · obtain ⟨a, o', e3, im'⟩ := S.cells.is i mo e
      exact ⟨a, o', (List.getElem?_append_left (List.getElem?_eq_some_iff.mp e3).1).trans e3, im'.mono (fun a o q => .inl q) fun i a q => by rw [em]; exact msnoc i a q⟩
    · obtain ⟨es, rfl, l⟩ := im.dict_inv
      exact ⟨d, _, by rw [S.cells.len, List.getElem?_append_right (Nat.le_refl _), Nat.sub_self]; rfl, .dict (hf.is l)⟩
theorem fn_106 (P : Params) : FnAtD (hd.heap_39 P) 106 [(Str.ofString "self"), (Str.ofString "codes"), (Str.ofString "begin")] [.int 1 335] := ⟨by kernel_rfl, by kernel_rfl, by kernel_rfl, by decide +kernel, by kernel_rfl, by rintro (_ | ⟨v0, _ | ⟨v1, _ | ⟨v2, vs⟩⟩⟩) h s X <;> first | (simp at h; done) | (obtain ⟨o, m, h1, h2⟩ := ds_of (T := 99) (ds := [.int 1 335]) (K := hd.heap_39 P) (by kernel_rfl) (by decide); exact binds_K X (by kernel_rfl) h1 h2 rfl (by kernel_rfl))⟩
theorem fn_56 (P : Params) : FnAtD (hd.heap_39 P) 56 [(Str.ofString "self"), (Str.ofString "tab_width"), (Str.ofString "has_carets"), (Str.ofString "truncates"), (Str.ofString "wraps_words"), (Str.ofString "hscroll")] [.int 8 260, .bool true, .bool false, .bool false, .int 0 261] := ⟨by kernel_rfl, by kernel_rfl, by kernel_rfl, by decide +kernel, by kernel_rfl, by rintro (_ | ⟨v0, _ | ⟨v1, vs⟩⟩) h s X <;> first | (simp at h; done) | (obtain ⟨o, m, h1, h2⟩ := ds_of (T := 49) (ds := [.int 8 260, .bool true, .bool false, .bool false, .int 0 261]) (K := hd.heap_39 P) (by kernel_rfl) (by decide); exact binds_K X (by kernel_rfl) h1 h2 rfl (by kernel_rfl))⟩
theorem fn_458 (P : Params) : FnAtD (hd.heap_39 P) 458 [(Str.ofString "self"), (Str.ofString "margin"), (Str.ofString "few")] [.int 0 869, .int 0 870] := ⟨by kernel_rfl, by kernel_rfl, by kernel_rfl, by decide +kernel, by kernel_rfl, by rintro (_ | ⟨v0, _ | ⟨v1, vs⟩⟩) h s X <;> first | (simp at h; done) | (obtain ⟨o, m, h1, h2⟩ := ds_of (T := 451) (ds := [.int 0 869, .int 0 870]) (K := hd.heap_39 P) (by kernel_rfl) (by decide); exact binds_K X (by kernel_rfl) h1 h2 rfl (by kernel_rfl))⟩
theorem fn_479 (P : Params) : FnAt (hd.heap_39 P) 479 [(Str.ofString "self"), (Str.ofString "view"), (Str.ofString "table"), (Str.ofString "height"), (Str.ofString "width"), (Str.ofString "options"), (Str.ofString "rules")] := ⟨by kernel_rfl, by kernel_rfl, by kernel_rfl, by decide +kernel, by rintro (_ | ⟨v0, _ | ⟨v1, _ | ⟨v2, _ | ⟨v3, _ | ⟨v4, _ | ⟨v5, _ | ⟨v6, _ | ⟨v7, vs⟩⟩⟩⟩⟩⟩⟩⟩) h <;> first | (simp at h; done) | kernel_rfl⟩
theorem fn_559 (P : Params) : FnAtD (hd.heap_39 P) 559 [(Str.ofString "self"), (Str.ofString "margin")] [.int 0 1028] := ⟨by kernel_rfl, by kernel_rfl, by kernel_rfl, by decide +kernel, by kernel_rfl, by rintro (_ | ⟨v0, _ | ⟨v1, vs⟩⟩) h s X <;> first | (simp at h; done) | (obtain ⟨o, m, h1, h2⟩ := ds_of (T := 552) (ds := [.int 0 1028]) (K := hd.heap_39 P) (by kernel_rfl) (by decide); exact binds_K X (by kernel_rfl) h1 h2 rfl (by kernel_rfl))⟩
theorem a_view_new : CallTo g (n + 2) 158 [codesP cs] [] (viewP cs) [] :=
  (CodeTo.new (cells := []) (by kernel_rfl) (run_allD (fn_106 _) (show runP g n 106 [(Str.ofString "self"), (Str.ofString "codes"), (Str.ofString "begin")] [.mob 158 0, codesP cs, .int 1] [.dict []] [] = some (.next, [.dict [((Str.ofString "codes"), codesP cs), ((Str.ofString "first"), .int 1)]], []) by kernel_rfl) rfl rfl trivial rfl (Nat.le_refl _))).call.frz
theorem a_opts_new : CallTo g (n + 2) 59 [] [] optsP [] :=
  (CodeTo.new (cells := []) (by kernel_rfl) (run_allD (fn_56 _) (show runP g n 56 [(Str.ofString "self"), (Str.ofString "tab_width"), (Str.ofString "has_carets"), (Str.ofString "truncates"), (Str.ofString "wraps_words"), (Str.ofString "hscroll")] [.mob 59 0, .int 8, .bool true, .bool false, .bool false, .int 0] [.dict []] [] = some (.next, [.dict [((Str.ofString "tab_width"), .int 8), ((Str.ofString "has_carets"), .bool true), ((Str.ofString "truncates"), .bool false), ((Str.ofString "wraps_words"), .bool false), ((Str.ofString "hscroll"), .int 0)]], []) by kernel_rfl) rfl rfl trivial rfl (Nat.le_refl _))).call.frz
theorem a_rules_new : CallTo g (n + 2) 461 [] [] rulesP [] :=
  (CodeTo.new (cells := []) (by kernel_rfl) (run_allD (fn_458 _) (show runP g n 458 [(Str.ofString "self"), (Str.ofString "margin"), (Str.ofString "few")] [.mob 461 0, .int 0, .int 0] [.dict []] [] = some (.next, [.dict [((Str.ofString "margin"), .int 0), ((Str.ofString "few"), .int 0)]], []) by kernel_rfl) rfl rfl trivial rfl (Nat.le_refl _))).call.frz
theorem a_pane_new : CallTo g (n + 2) 496 [viewP cs, tableP w, .int high, .int 12, optsP, rulesP] [] (paneP w cs high) [] :=
  (CodeTo.new (cells := []) (by kernel_rfl) (run_all (fn_479 _) (show runP g n 479 [(Str.ofString "self"), (Str.ofString "view"), (Str.ofString "table"), (Str.ofString "height"), (Str.ofString "width"), (Str.ofString "options"), (Str.ofString "rules")] [.mob 496 0, viewP cs, tableP w, .int high, .int 12, optsP, rulesP] [.dict []] [] = some (.next, [.dict [((Str.ofString "view"), viewP cs), ((Str.ofString "table"), tableP w), ((Str.ofString "height"), .int high), ((Str.ofString "width"), .int 12), ((Str.ofString "options"), optsP), ((Str.ofString "rules"), rulesP)]], []) by kernel_rfl) rfl trivial rfl (Nat.le_refl _))).call.frz
theorem a_turns_new : CallTo g (n + 2) 576 [] cells (.mob 576 cells.length) (cells ++ [turnsD 0]) :=
  CallTo.frame1 (CodeTo.new (cells := []) (by kernel_rfl) (run_allD (fn_559 _) (show runP g n 559 [(Str.ofString "self"), (Str.ofString "margin")] [.mob 576 0, .int 0] [.dict []] [] = some (.next, [turnsD 0], []) by kernel_rfl) rfl rfl trivial rfl (Nat.le_refl _))).call NCL.nil (NCD.cons .int (NCD.cons .int NCD.nil))
end

end
noncomputable section
/-! the deck -/
noncomputable def drawV (k : Nat) (d : Nat → Int) (c many : Int) : Int := if c ≤ k then (d (c - 1).toNat).fmod many else ((c * c * 37 + 23 * c + 7 * k).fdiv 5).fmod many
noncomputable def deckM (k : Nat) (d : Nat → Int) (c : Int) : MO := .list [intsP k d, .int c]
theorem drawV_lo {k : Nat} {d : Nat → Int} {c many : Int} (h : 0 < many) : 0 ≤ drawV k d c many := by
  unfold drawV; split <;> exact Int.fmod_nonneg_of_pos _ h
theorem drawV_hi {k : Nat} {d : Nat → Int} {c many : Int} (h : 0 < many) : drawV k d c many < many := by
  unfold drawV; split <;> exact Int.fmod_lt_of_pos _ h
section
variable {w : World} {g : Gl w} {n k : Nat} {d : Nat → Int} {c many : Int}
theorem fn_666 (P : Params) : FnAt (hd.heap_39 P) 666 [(Str.ofString "deck"), (Str.ofString "many")] := ⟨by kernel_rfl, by kernel_rfl, by kernel_rfl, by decide +kernel, by rintro (_ | ⟨v0, _ | ⟨v1, _ | ⟨v2, vs⟩⟩⟩) h <;> first | (simp at h; done) | kernel_rfl⟩
theorem mul_ok {a b : Int} (h1 : -10000000 ≤ a) (h2 : a ≤ 10000000) : IntMulOk a b := .of_left (intBits_le_64 (by omega) (by omega))
theorem a_draw0 (hk : k ≤ 63) (h0 : 0 ≤ c) (hc : c ≤ 1000) (hm : 0 < many) : CallTo g (n + 1) 666 [.cell 0, .int many] [deckM k d c] (.int (drawV k d (c + 1) many)) [deckM k d (c + 1)] := by
  by_cases h : c + 1 ≤ k
  · exact ((run_code (k := 1) (fn_666 _) (show runP g n 666 [(Str.ofString "deck"), (Str.ofString "many")] [.cell 0, .int many] [deckM k d c] [.b true] = some ((.ret (.int (Int.fmod (d (Int.toNat ((c + (1 : Int)) - (1 : Int)))) many))), [deckM k d (c + 1)], [k ≤ 1000, decide ((c + 1) ≤ (k : Int)) = true, ((0 : Int) ≤ ((c + (1 : Int)) - (1 : Int))) ∧ ((((c + (1 : Int)) - (1 : Int)) < (Nat.cast k : Int)) ∧ (((c + (1 : Int)) - (1 : Int)) < (1000000 : Int))), (many ≠ (0 : Int))]) by kernel_rfl) rfl
      ⟨by omega, decide_eq_true h, by omega, by omega, trivial⟩ rfl (Nat.le_refl _) (Nat.le_refl _) rfl rfl).call).conv (int_eq (by unfold drawV; rw [if_pos h]))
  · exact ((run_code (k := 1) (fn_666 _) (show runP g n 666 [(Str.ofString "deck"), (Str.ofString "many")] [.cell 0, .int many] [deckM k d c] [.b false] = some ((.ret (.int (Int.fmod (Int.fdiv (((((c + (1 : Int)) * (c + (1 : Int))) * (37 : Int)) + ((23 : Int) * (c + (1 : Int)))) + ((7 : Int) * (k : Int))) (5 : Int)) many))), [deckM k d (c + 1)], [k ≤ 1000, decide ((c + 1) ≤ (k : Int)) = false, (PySem.IntMulOk (c + (1 : Int)) (c + (1 : Int))), (PySem.IntMulOk ((c + (1 : Int)) * (c + (1 : Int))) (37 : Int)), (PySem.IntMulOk (23 : Int) (c + (1 : Int))), k ≤ 1000, (PySem.IntMulOk (7 : Int) (k : Int)), ((5 : Int) ≠ (0 : Int)), ((PySem.Builtin.divisionGoesByPylong (((((c + (1 : Int)) * (c + (1 : Int))) * (37 : Int)) + ((23 : Int) * (c + (1 : Int)))) + ((7 : Int) * (k : Int))) (5 : Int)) = Bool.false), (many ≠ (0 : Int))]) by kernel_rfl) rfl
      ⟨by omega, decide_eq_false h, mul_ok (by omega) (by omega), .of_right (intBits_le_64 (by decide) (by decide)), mul_ok (by decide) (by decide), by omega, mul_ok (by decide) (by decide), by decide, PyProof.noPylong_small (by decide), by omega, trivial⟩ rfl (Nat.le_refl _) (Nat.le_refl _) rfl rfl).call).conv (int_eq (by unfold drawV; rw [if_neg h]))
theorem nc_deck : NBM 0 (deckM k d c) := .list (all_cons (.seq fun _ => .int) (all_cons .int all_nil))
theorem a_draw {i : Nat} {cells cells' : List MO} (hk : k ≤ 63) (h0 : 0 ≤ c) (hc : c ≤ 1000) (hm : 0 < many) (hi : cells[i]? = some (deckM k d c)) (he : cells.set i (deckM k d (c + 1)) = cells') : CallTo g (n + 1) 666 [.cell i, .int many] cells (.int (drawV k d (c + 1) many)) cells' :=
  (a_draw0 hk h0 hc hm).subM (.inl ⟨rfl, rfl⟩) hi nc_deck nc_deck .int (NCL.cons .int NCL.nil) he
end

end
noncomputable section
/-! the line that a place stands in -/
noncomputable def retE (s : Stmt) : Expr := match s with | .Return (some e) _ => e | _ => .Constant .none 0 default
noncomputable def subV (e : Expr) : Expr := match e with | .Subscript v _ _ => v | _ => .Constant .none 0 default
noncomputable def headE (l : List Expr) : Expr := match l with | [t] => t | _ => .Constant .none 0 default
theorem itsE_sq {k : Nat} {f : Nat → PV} {i : Nat} {q : PV} (e : (Its.sq k f).at? i = some q) : q = f i := by
  by_cases h : i < k
  · rw [Its.at_sq h] at e; cases e; rfl
  · rw [show (Its.sq k f).at? i = none from if_neg h] at e; cases e
noncomputable abbrev e671 (w : World) : Expr := subV (retE (stAt (KK w) 671 0))
noncomputable def l671 : List (Str × PV) := [((Str.ofString "line_starts"), .var 1), ((Str.ofString "place"), .var 0)]
section
variable {w : World} {g : Gl w} {n N i : Nat} {cs : List Int} {P : Nat → Int} {D : Nat → Nat} {z : Int}
noncomputable def c671 (N : Nat) (P : Nat → Int) (z : Int) : List MO := [.var (.int z), .var (intsP N P)]
theorem fn_671 (w : World) : FnAtC (KK w) 671 [(Str.ofString "line_starts"), (Str.ofString "place")] [(Str.ofString "place"), (Str.ofString "line_starts")] := ⟨by kernel_rfl, by kernel_rfl, by decide +kernel, by rintro (_ | ⟨v0, _ | ⟨v1, _ | ⟨v2, vs⟩⟩⟩) h <;> first | (simp at h; done) | kernel_rfl, by kernel_rfl, by decide +kernel⟩
theorem line_le (hT : Text cs N P D) (h1 : P i ≤ z) (h2 : z < P (i + 1)) (hi : i < N) {r : Nat} (hr : r < N) : decide (P (Int.toNat (r : Int)) ≤ z) = decide (r ≤ i) := by
  rw [Int.toNat_natCast]
  refine decide_eq_decide.mpr ⟨fun q => ?_, fun q => ?_⟩
  · by_cases e : r ≤ i
    · exact e
    · have := hT.le (i := i + 1) (j := r) (by omega) (by omega)
      omega
  · have := hT.le (i := r) (j := i) q (by omega)
    omega
noncomputable def nmAt : Str := (Str.ofString "at")
theorem a_line_of (hT : Text cs N P D) (h1 : P i ≤ z) (h2 : z < P (i + 1)) (hi : i < N) : CallTo g (n + 1) 671 [intsP N P, .int z] [] (.int i) [] := by
  have h9 := hT.nine
  let S : Nat → AS := fun m => ⟨l671, c671 N P z ++ [.seq (min m (i + 1)) fun j => .int j]⟩
  have hmin : min N (i + 1) = i + 1 := by omega
  have comp : EvG (.of g n 671) (e671 w) ⟨l671, c671 N P z⟩ (.cell 2) ⟨l671, c671 N P z ++ [.seq (min N (i + 1)) fun j => .int j]⟩ :=
    EvG_comp (nm := nmAt) (K := 2) (Cs := fun _ => c671 N P z) (acc := fun m => .seq (min m (i + 1)) fun j => .int j) (t := .sq N fun j => .int j) (by kernel_rfl) (by kernel_rfl)
      (runE_ev (o := []) (ps := [N ≤ 1000]) (show runE (.of g n 671) (compIt (e671 w)) ⟨l671, c671 N P z⟩ [] = some (rangeP (N : Int), ⟨l671, c671 N P z⟩, [N ≤ 1000]) by kernel_rfl) ⟨by omega, trivial⟩) (fun c => Src1.range (by omega) (by omega) (by omega))
      ⟨fun _ _ => rfl, fun _ _ => ⟨all_cons (.var .int) (all_cons (.var (.seq fun _ => .int)) all_nil), .seq fun _ => .int⟩, all_cons (.var (by decide)) (all_cons (.var (by decide)) all_nil), fun j q e => by rw [itsE_sq e]; exact .int, fun r q o hr e => ?_⟩ (by show N ≤ 1000; omega) (fun F ms o im => ?_)
  · exact (codeTo_cells (st0 := ⟨l671, c671 N P z⟩) (fn_671 w) rfl (all_cons (.inr ⟨1, rfl, rfl, by kernel_rfl⟩) (all_cons (.inr ⟨0, rfl, rfl, by kernel_rfl⟩) all_nil)) rfl (fun k mo e => by
        rcases k with _ | _ | k
        · cases e; exact ⟨_, rfl, .inl ⟨_, .tail _ (.head _), by kernel_rfl, rfl⟩⟩
        · cases e; exact ⟨_, rfl, .inl ⟨_, .head _, by kernel_rfl, rfl⟩⟩
        · exact (nil_get (i := k) e).elim)
      (runB_exs (o := [.ev (.cell 2) (S N)]) (show runB (.of g n 671) (bodyOf (KK w) 671) ⟨l671, c671 N P z⟩ [.ev (.cell 2) (S N)] = some (.ret (.int (min N (i + 1) - 1 : Nat)), S N, [EvG (.of g n 671) (e671 w) ⟨l671, c671 N P z⟩ (.cell 2) (S N), 0 < min N (i + 1) ∧ min N (i + 1) ≤ 1000]) by kernel_rfl) ⟨comp, by omega, trivial⟩)
      rfl rfl (NCL.cons (.seq fun _ => .int) (NCL.cons .int NCL.nil))).conv (int_eq (by rw [hmin]; omega))
  · have hr' : r < N := hr
    rw [itsE_sq e]
    have hd := line_le hT h1 h2 hi hr'
    have run : ∀ (b : Bool) (acc : MO), runT ((Cx.of g n 671).comp (e671 w)) (headE (compIfs (e671 w))) ⟨compLoc nmAt 3 (compSc (e671 w)) l671, c671 N P z ++ [.raw o, .ns nmAt (.int r), acc]⟩ [.b b] = some (b, ⟨compLoc nmAt 3 (compSc (e671 w)) l671, c671 N P z ++ [.raw o, .ns nmAt (.int r), acc]⟩, [((0 : Int) ≤ (r : Int)) ∧ ((r : Int) < (N : Int) ∧ (r : Int) < 1000000), decide (P (Int.toNat (r : Int)) ≤ z) = b]) := by
      intro b acc; cases b <;> kernel_rfl
    by_cases hri : r ≤ i
    · refine .inl ⟨_, .int r, [], runT_ts (run true _) ⟨by omega, by rw [hd]; exact decide_eq_true hri, trivial⟩, ?_, .int, ?_⟩
      · exact runE_ev (o := []) (ps := []) (by kernel_rfl) trivial
      · show Snoc w (.seq (min r (i + 1)) _) _ (.seq (min (r + 1) (i + 1)) _)
        rw [show min r (i + 1) = r by omega, show min (r + 1) (i + 1) = r + 1 by omega]
        exact Snoc.seq ⟨rfl, by omega⟩
    · refine .inr ⟨[], runT_ts (run false _) ⟨by omega, by rw [hd]; exact decide_eq_false hri, trivial⟩, ?_⟩
      show MO.seq (min (r + 1) (i + 1)) _ = MO.seq (min r (i + 1)) _
      rw [show min (r + 1) (i + 1) = min r (i + 1) by omega]
  · show IsM w F ms (.seq (min 0 (i + 1)) _) o
    rw [show min 0 (i + 1) = 0 by omega]
    cases im with
    | list l =>
      cases l
      exact .seq rfl fun j v q => (nil_get q).elim
end

end
noncomputable section
/-! where a window stands behind a scroll: the law's own reckoning -/
section
variable {w : World} {g : Gl w} {n N i f high : Nat} {cs : List Int} {P : Nat → Int} {D : Nat → Nat} {z d : Int}
theorem fn_678 (P : Params) : FnAt (hd.heap_39 P) 678 [(Str.ofString "line_starts"), (Str.ofString "first"), (Str.ofString "place"), (Str.ofString "count"), (Str.ofString "high")] := ⟨by kernel_rfl, by kernel_rfl, by kernel_rfl, by decide +kernel, by rintro (_ | ⟨v0, _ | ⟨v1, _ | ⟨v2, _ | ⟨v3, _ | ⟨v4, _ | ⟨v5, vs⟩⟩⟩⟩⟩⟩) h <;> first | (simp at h; done) | kernel_rfl⟩
noncomputable def nm678 : List Str := [(Str.ofString "line_starts"), (Str.ofString "first"), (Str.ofString "place"), (Str.ofString "count"), (Str.ofString "high")]
noncomputable def ar678 (N : Nat) (P : Nat → Int) (f : Nat) (z d : Int) (high : Nat) : List PV := [intsP N P, .int f, .int z, .int d, .int high]
/-- how the two early returns are passed -/
noncomputable def oH : Nat → List Ora
  | 0 => [.b true, .b false, .b false]
  | 1 => [.b false, .b true, .b false]
  | _ => [.b false, .b false]
noncomputable def pH (N f : Nat) (d : Int) : Nat → List Prop
  | 0 => [decide (0 < d) = true, N ≤ 1000, ((f : Int) == (N : Int) - 1) = false, decide (d < 0) = false]
  | 1 => [decide (0 < d) = false, decide (d < 0) = true, ((f : Int) == 0) = false]
  | _ => [decide (0 < d) = false, decide (d < 0) = false]
noncomputable def laterI (N f : Nat) (d : Int) : Int := min (max ((f : Int) + d) 0) ((N : Int) - 1)
/-- how the place is kept in the window -/
noncomputable def oT : Nat → List Ora
  | 0 => [.b true, .b false]
  | 1 => [.b false, .b true]
  | _ => [.b false, .b false]
noncomputable def vT (P : Nat → Int) (E : Int) (high : Nat) (z : Int) : Nat → Int
  | 0 => P E.toNat
  | 1 => P (E + high - 1).toNat
  | _ => z
noncomputable def inR (E : Int) (N : Nat) : Prop := 0 ≤ E ∧ E < N ∧ E < 1000000
noncomputable def pT (N i : Nat) (E : Int) (high : Nat) : Nat → List Prop
  | 0 => [decide ((i : Int) < E) = true, inR E N, decide (E + high ≤ i) = false, inR E N]
  | 1 => [decide ((i : Int) < E) = false, decide (E + high ≤ i) = true, inR (E + high - 1) N, inR E N]
  | _ => [decide ((i : Int) < E) = false, decide (E + high ≤ i) = false, inR E N]
theorem r678 {a b : Nat} : runP g n 678 nm678 (ar678 N P f z d high) [] (oH a ++ .call (.int i) [] :: oT b) = some (.ret (.tup [.int (P (laterI N f d).toNat), .int (vT P (laterI N f d) high z b)]), [], pH N f d a ++ ((N ≤ 1000) :: CallTo g n 671 [intsP N P, .int z] [] (.int i) [] :: pT N i (laterI N f d) high b)) := by
  rcases a with _ | _ | a <;> rcases b with _ | _ | b <;> kernel_rfl
theorem AllP.app {a b : List Prop} (h1 : AllP a) (h2 : AllP b) : AllP (a ++ b) := by
  induction a with
  | nil => exact h2
  | cons p a ih => exact ⟨h1.1, ih h1.2⟩
theorem a_lscr (hT : Text cs N P D) (h1 : P i ≤ z) (h2 : z < P (i + 1)) (hi : i < N) (hf : f < N) (hh1 : 1 ≤ high) (hn1 : ¬ (0 < d ∧ f + 1 = N)) (hn2 : ¬ (d < 0 ∧ f = 0)) :
    CallTo g (n + 2) 678 (ar678 N P f z d high) [] (.tup [.int (P (lineOn N f d)), .int (shownPt N P (lineOn N f d) high z)]) [] := by
  have h9 := hT.nine
  have hj : lineOn N f d < N := by unfold lineOn; omega
  have hE : laterI N f d = ((lineOn N f d : Nat) : Int) := by unfold laterI lineOn; omega
  have hE2 : (laterI N f d).toNat = lineOn N f d := rfl
  rw [shownPt_eq hT hj hh1 h1 h2 hi]
  have key : ∀ (a b : Nat), AllP (pH N f d a) → AllP (pT N i (laterI N f d) high b) → CallTo g (n + 2) 678 (ar678 N P f z d high) [] (.tup [.int (P (lineOn N f d)), .int (vT P (laterI N f d) high z b)]) [] := fun a b ha hb =>
    (run_code (k := 0) (fn_678 _) (r678 (n := n + 1) (a := a) (b := b)) rfl (ha.app (And.intro (by omega) (And.intro (a_line_of hT h1 h2 hi) hb))) rfl (Nat.zero_le _) (Nat.zero_le _) rfl rfl).call
  have H : ∃ a, AllP (pH N f d a) := by
    by_cases c1 : 0 < d
    · refine ⟨0, decide_eq_true c1, by omega, ?_, by simp; omega, trivial⟩
      exact beq_eq_false_iff_ne.mpr (by omega)
    · by_cases c2 : d < 0
      · refine ⟨1, by simpa using c1, decide_eq_true c2, ?_, trivial⟩
        exact beq_eq_false_iff_ne.mpr (by omega)
      · exact ⟨2, by simpa using c1, by simpa using c2, trivial⟩
  obtain ⟨a, ha⟩ := H
  have r1 : inR (laterI N f d) N := ⟨by omega, by omega, by omega⟩
  by_cases c1 : i < lineOn N f d
  · have := key a 0 ha ⟨by rw [hE]; exact decide_eq_true (by omega), r1, by rw [hE]; exact decide_eq_false (by omega), r1, trivial⟩
    rw [if_pos c1]; exact this
  · rw [if_neg c1]
    by_cases c2 : lineOn N f d + high ≤ i
    · have := key a 1 ha ⟨by rw [hE]; exact decide_eq_false (by omega), by rw [hE]; exact decide_eq_true (by omega), ⟨by omega, by omega, by omega⟩, r1, trivial⟩
      rw [if_pos c2]
      rw [show vT P (laterI N f d) high z 1 = P (lineOn N f d + high - 1) from congrArg P (by omega)] at this
      exact this
    · have := key a 2 ha ⟨by rw [hE]; exact decide_eq_false (by omega), by rw [hE]; exact decide_eq_false (by omega), r1, trivial⟩
      rw [if_neg c2]; exact this
theorem a_lscr_end (h9 : N ≤ 9) (h : 0 < d ∧ f + 1 = N) : CallTo g (n + 1) 678 (ar678 N P f z d high) [] (.str (Str.ofString "end-of-buffer")) [] :=
  (run_code (k := 0) (fn_678 _) (show runP g n 678 nm678 (ar678 N P f z d high) [] [.b true, .b true] = some (.ret (.str (Str.ofString "end-of-buffer")), [], [decide (0 < d) = true, N ≤ 1000, ((f : Int) == (N : Int) - 1) = true]) by kernel_rfl) rfl ⟨decide_eq_true h.1, by omega, by rw [beq_iff_eq]; omega, trivial⟩ rfl (Nat.zero_le _) (Nat.zero_le _) rfl rfl).call
theorem a_lscr_beg (h : d < 0 ∧ f = 0) : CallTo g (n + 1) 678 (ar678 N P f z d high) [] (.str (Str.ofString "beginning-of-buffer")) [] :=
  (run_code (k := 0) (fn_678 _) (show runP g n 678 nm678 (ar678 N P f z d high) [] [.b false, .b true, .b true] = some (.ret (.str (Str.ofString "beginning-of-buffer")), [], [decide (0 < d) = false, decide (d < 0) = true, ((f : Int) == 0) = true]) by kernel_rfl) rfl ⟨by simp; omega, decide_eq_true h.1, by rw [beq_iff_eq]; omega, trivial⟩ rfl (Nat.zero_le _) (Nat.zero_le _) rfl rfl).call
end

end
noncomputable section
--WALK
section
variable {M : Model} {A : Around} {E : Value → Shared → Prop} {s : Shared}
theorem dict_fields (o : Obj) (f : Array Value → Array Value) : (o.mapFields f).dict = o.dict := by
  obtain ⟨c, d, da, sl⟩ := o
  cases da <;> rfl
/-- the exception e of class 38 is on its way: its fields lie in dx, its newest entry tells fl -/
noncomputable def TrAt (B h : Heap) (e dx : Addr) (fl : Value) : Prop :=
  ∃ oe vs T oT ts, h.get? e = some oe ∧ (oe.cls = .ref 38 ∧ oe.dict = some dx) ∧ oe.data = .fields vs ∧ vs[1]? = some (.ref T) ∧ B.get? T = none ∧ T ≠ e ∧ h.get? T = some oT ∧ oT.data = .fields ts ∧ ts[3]? = some fl
noncomputable def Fly (B : Heap) (l : List Env) (e dx : Addr) (h : Heap) : Prop := B.StaysIn h ∧ B.get? e = none ∧ h.FunFrames B l ∧ TrAt B h e dx .none

theorem exc_entry {B : Heap} {env : Env} {outer : List Env} {L e dx : Addr} {oe : Obj} {vs : Array Value} {head : Value} {hadNext : Bool} {Q : Unit → Shared → Prop}
    (hfr : A.frames = some (env :: outer)) (hl : s.heap.FunFrames B (env :: outer)) (hf : env.frame = some L)
    (he : s.heap.get? e = some oe) (hc : oe.cls = .ref 38) (hdx : oe.dict = some dx) (hkb : B.StaysIn s.heap) (hen : B.get? e = none) (hd : oe.data = .fields vs) (hsz : 1 < vs.size)
    (h : ∀ h', B.StaysIn h' → h'.FunFrames B (env :: outer) → TrAt B h' e dx (rawInt L) → s.heap.UpToSlots h' → Q () { s with heap := h' }) :
    wpAny M A (do let a ← frameOf env; let pl ← entryPlaceOf L hadNext; let b ← EntryCells.newEntry head a .none (rawInt L) .none pl; setField (.ref e) 1 b) Q E s := by
  have notFrame : e ∉ (env :: outer).filterMap (·.frame) := fun hm => by
    obtain ⟨_, o, ho, hnf⟩ := hl.mem hm
    rw [he] at ho; injection ho with ho; subst ho; exact hnf vs hd
  refine wpAny_bind (wpAny_frameOf_fun hfr hl hf fun h₁ hs₁ => ?_)
  refine wpAny_bind (wpAny_entryPlaceOf fun pl hpl => ?_)
  unfold EntryCells.newEntry newFields
  refine wpAny_bind (wpAny_newObj_type ?_ (hpl.sizeOk5 _ _ _ _ _))
  have he₁ : h₁.get? e = some oe := (hs₁.2.1 e notFrame).trans he
  have kb₁ : B.StaysIn h₁ := fun b o hbo => (hs₁.2.1 b fun hm => by rw [(hl.mem hm).1] at hbo; cases hbo).trans (hkb b o hbo)
  generalize hob : ({ cls := .type "traceback", dict := none, data := .fields ([head, .ref L, .none, rawInt L, .none] ++ (if pl.isEmpty then List.replicate 6 Value.none else pl)).toArray } : Obj) = ob
  have he₂ := Heap.get?_push_of_some (h := h₁) ob he₁
  refine wpAny_setField he₂ hd hsz (h _ ?_ ?_ ?_ ?_)
  · intro b o hbo
    rw [Heap.get?_update_other _ _ (fun q : e = b => by rw [q, hbo] at hen; cases hen)]
    exact Heap.get?_push_of_some _ (kb₁ b o hbo)
  · refine hl.of_keeps fun b o hb hnf => ?_
    have hbe : e ≠ b := fun q => by rw [← q, he] at hb; injection hb with hb; subst hb; exact hnf vs hd
    obtain ⟨sl, hs⟩ := hs₁.2.2 b o hb
    exact ⟨_, (Heap.get?_update_other _ _ hbe).trans (Heap.get?_push_of_some _ hs), rfl⟩
  · have hTe : h₁.objs.size ≠ e := Nat.ne_of_gt (Heap.lt_size he₁)
    have hd₃ := Obj.data_mapFields hd (·.setIfInBounds 1 (Value.ref h₁.objs.size))
    refine ⟨_, _, h₁.objs.size, ob, _, Heap.get?_update_self (Obj.mapFields (·.setIfInBounds 1 (Value.ref h₁.objs.size))) he₂ (Obj.isFreed_of_fields hd₃), ⟨(Obj.cls_mapFields _ _).trans hc, (dict_fields _ _).trans hdx⟩, hd₃, by simp [hsz], kb₁.fresh, hTe,
      (Heap.get?_update_other _ _ (Ne.symm hTe)).trans (Heap.get?_push_size h₁ (by rw [← hob]; rfl)), by rw [← hob], ?_⟩
    first | (simp; done) | (rcases hpl with rfl | ⟨_, _, _, _, _, _, _, rfl⟩ <;> simp)
  · intro b o hb hnf
    have hbe : e ≠ b := fun q => by rw [← q, he] at hb; injection hb with hb; subst hb; exact hnf vs hd
    obtain ⟨sl, hs⟩ := hs₁.2.2 b o hb
    exact ⟨sl, (Heap.get?_update_other _ _ hbe).trans (Heap.get?_push_of_some _ hs)⟩

theorem exc_land {B : Heap} {l : List Env} {e dx : Addr} {fl : Value} {Q : Unit → Shared → Prop} (hkb : B.StaysIn s.heap) (hen : B.get? e = none) (hl : s.heap.FunFrames B l) (ht : TrAt B s.heap e dx fl)
    (h : ∀ h', Fly B l e dx h' → s.heap.UpToSlots h' → Q () { s with heap := h' }) : wpAny M A (setFlight (.ref e) none) Q E s := by
  obtain ⟨oe, vs, T, oT, ts, he, hcls, hd, h1, hnT, hTe, hT, hdT, h3⟩ := ht
  have hsz3 : 3 < ts.size := (Array.getElem?_eq_some_iff.mp h3).1
  unfold setFlight
  refine wpAny_bind (wpAny_field he hd h1 ?_)
  rw [if_pos (show (Value.ref T != Value.none) = true from by simp)]
  have notT : ∀ b o, s.heap.get? b = some o → (∀ vs, o.data ≠ .fields vs) → T ≠ b := fun b o hb hnf q => by
    rw [← q, hT] at hb; injection hb with hb; subst hb; exact hnf ts hdT
  refine wpAny_setField hT hdT hsz3 (h _ ⟨fun b o hbo => ?_, hen, hl.of_keeps fun b o hb hnf => ⟨o, (Heap.get?_update_other _ _ (notT b o hb hnf)).trans hb, rfl⟩, ?_⟩ fun b o hb hnf => ⟨o.slots, (Heap.get?_update_other _ _ (notT b o hb hnf)).trans hb⟩)
  · exact (Heap.get?_update_other _ _ (fun q : T = b => by rw [q, hbo] at hnT; cases hnT)).trans (hkb b o hbo)
  · exact ⟨oe, vs, T, _, _, (Heap.get?_update_other _ _ hTe).trans he, hcls, hd, h1, hnT, hTe, Heap.get?_update_self _ hT (Obj.isFreed_of_fields (Obj.data_mapFields hdT _)), Obj.data_mapFields hdT _, by simp [hsz3]⟩

theorem exc_note {B : Heap} {env : Env} {outer : List Env} {L e dx : Addr} {Q : Unit → Shared → Prop} (hfr : A.frames = some (env :: outer)) (hf : env.frame = some L) (hfl : Fly B (env :: outer) e dx s.heap)
    (h : ∀ h', B.StaysIn h' → h'.FunFrames B (env :: outer) → TrAt B h' e dx (rawInt L) → s.heap.UpToSlots h' → Q () { s with heap := h' }) : wpAny M A (noteFrame (.ref e) env) Q E s := by
  obtain ⟨hkb, hen, hl, oe, vs, T, oT, ts, he, ⟨hc, hdx⟩, hd, h1, hnT, hTe, hT, hdT, h3⟩ := hfl
  unfold noteFrame
  simp only [hf]
  refine wpAny_bind (wpAny_field he hd h1 ?_)
  rw [if_pos (show (Value.ref T != Value.none) = true from by simp)]
  refine wpAny_bind (wpAny_field hT hdT h3 ?_)
  rw [if_neg (show ¬ ((Value.none == rawInt L) = true) from by simp [rawInt])]
  refine wpAny_bind (wpAny_setField hT hdT (Array.getElem?_eq_some_iff.mp h3).1 ?_)
  have notT : ∀ b o, s.heap.get? b = some o → (∀ vs, o.data ≠ .fields vs) → T ≠ b := fun b o hb hnf q => by
    rw [← q, hT] at hb; injection hb with hb; subst hb; exact hnf ts hdT
  refine exc_entry hfr (hl.of_keeps fun b o hb hnf => ⟨o, (Heap.get?_update_other _ _ (notT b o hb hnf)).trans hb, rfl⟩) hf ((Heap.get?_update_other _ _ hTe).trans he) hc hdx
    (fun b o hbo => (Heap.get?_update_other _ _ (fun q : T = b => by rw [q, hbo] at hnT; cases hnT)).trans (hkb b o hbo)) hen hd (Array.getElem?_eq_some_iff.mp h1).1
    fun h' x1 x2 x3 x4 => h h' x1 x2 x3 fun b o hb hnf => x4 b o ((Heap.get?_update_other _ _ (notT b o hb hnf)).trans hb) hnf

theorem exc_leave_next {B : Heap} {env : Env} {outer : List Env} {L e dx : Addr} {Q : Unit → Shared → Prop} (hfr : A.frames = some (env :: outer)) (hf : env.frame = some L) (hfl : Fly B (env :: outer) e dx s.heap)
    (h : ∀ h', Fly B outer e dx h' → s.heap.UpToSlots h' → Q () { s with heap := h' }) : wpAny M A (leaving env (.ref e)) Q E s := by
  unfold leaving
  refine wpAny_bind (exc_note hfr hf hfl fun h₁ k1 k2 k3 k4 => ?_)
  refine exc_land k1 hfl.2.1 k2 k3 fun h' ⟨x1, x2, x3, x4⟩ x5 => h h' ⟨x1, x2, x3.2.2, x4⟩ (k4.trans x5)

theorem exc_leave_first {B : Heap} {env : Env} {outer : List Env} {L e dx : Addr} {oe : Obj} {vs : Array Value} {Q : Unit → Shared → Prop} (hfr : A.frames = some (env :: outer)) (hl : s.heap.FunFrames B (env :: outer)) (hf : env.frame = some L)
    (he : s.heap.get? e = some oe) (hc : oe.cls = .ref 38) (hdx : oe.dict = some dx) (hkb : B.StaysIn s.heap) (hen : B.get? e = none) (hd : oe.data = .fields vs) (h1 : vs[1]? = some .none)
    (h : ∀ h', Fly B outer e dx h' → s.heap.UpToSlots h' → Q () { s with heap := h' }) : wpAny M A (leaving env (.ref e)) Q E s := by
  unfold leaving noteFrame
  simp only [hf]
  refine wpAny_bind (wpAny_bind (wpAny_field he hd h1 ?_))
  rw [if_neg (by decide)]
  refine exc_entry hfr hl hf he hc hdx hkb hen hd (Array.getElem?_eq_some_iff.mp h1).1 fun h₁ k1 k2 k3 k4 => ?_
  exact exc_land k1 hen k2 k3 fun h' ⟨x1, x2, x3, x4⟩ x5 => h h' ⟨x1, x2, x3.2.2, x4⟩ (k4.trans x5)
end
theorem frames_any {base base' h : Heap} : ∀ {l : List Env}, h.FunFrames base l → (∀ env ∈ l, ∀ a, env.frame = some a → base'.get? a = none) → h.FunFrames base' l
  | [], _, _ => trivial
  | _ :: _, ⟨hk, ⟨L, o, hf, _, ho, hd⟩, hr⟩, hn => ⟨hk, ⟨L, o, hf, hn _ (.head _) L hf, ho, hd⟩, frames_any hr fun e he => hn e (.tail _ he)⟩
/-- a LispSignal of this symbol is on its way -/
noncomputable def Raised (base : Heap) (l : List Env) (e : Addr) (sym : Str) (h : Heap) : Prop :=
  ∃ B dx od mA t, base.StaysIn B ∧ Fly B l e dx h ∧ B.get? dx = some od ∧ LCg.NsObj od mA ∧ mA (Str.ofString "symbol") = some (.str sym t) ∧ base.get? dx = none
section
variable {M : Model} {A : Around} {E : Value → Shared → Prop} {s' : Shared} {base g g₂ : Heap} {outer : List Env} {L a e dx : Addr} {m : Str → Option Value} {name : Str} {scope : Scope} {cd : Value} {Q : Unit → Shared → Prop} {sym : Str}
theorem leave_sig {oe od : Obj} {vs : Array Value} {mA : Str → Option Value} {t : Tok} (K : Below A base outer g) (F : Fr g L s'.heap m) (he : s'.heap.get? e = some oe) (hc : oe.cls = .ref 38) (hdx : oe.dict = some dx) (hd : oe.data = .fields vs) (h1 : vs[1]? = some .none)
    (hen : g.get? e = none) (hdo : s'.heap.get? dx = some od) (hdn : g.get? dx = none) (hdL : @Ne Nat dx L) (hde : @Ne Nat dx e) (hN : LCg.NsObj od mA) (hS : mA (Str.ofString "symbol") = some (.str sym t))
    (hQ : ∀ h', Raised base outer e sym h' → g.UpToSlots h' → Q () { s' with heap := h' }) (hk : scope.kind = .function := by rfl) :
    wpAny M (A.deeper (envOf name scope L a cd)) (leaving (envOf name scope L a cd) (.ref e)) Q E s' := by
  have K' := K.push (name := name) (a := a) (cd := cd) F hk
  generalize hB : hideAll (s'.heap.hide e) ((envOf name scope L a cd :: outer).filterMap (·.frame)) = B
  have up : ∀ b o, B.get? b = some o → (s'.heap.hide e).get? b = some o := fun b o q => by rw [← hB] at q; exact of_hideAll _ q
  have st : base.StaysIn B := fun b o q => by
    rw [← hB]
    refine hideAll_get _ ((Heap.hide_ne s'.heap (a := e) (b := b) (fun z => ?_)).trans (K'.stays b o q)) fun hm => by rw [(K'.frames.mem hm).1] at q; cases q
    have := K.stays b o q
    rw [z, hen] at this; cases this
  have stB : B.StaysIn s'.heap := fun b o q => Heap.of_hide (up b o q)
  have heB : B.get? e = none := by
    cases q : B.get? e with
    | none => rfl
    | some o => have := up e o q; rw [Heap.hide_self] at this; cases this
  have hdB : B.get? dx = some od := by
    rw [← hB]
    refine hideAll_get _ ((Heap.hide_ne s'.heap (a := e) (b := dx) hde).trans hdo) fun hm => ?_
    obtain ⟨env, he', hf⟩ := List.mem_filterMap.mp hm
    rcases List.mem_cons.mp he' with rfl | he'
    · exact hdL (Option.some.inj hf).symm
    · obtain ⟨o, ho, _⟩ := (K.frames.mem (List.mem_filterMap.mpr ⟨env, he', hf⟩)).2
      rw [hdn] at ho; cases ho
  refine exc_leave_first K'.stack (frames_any K'.frames fun env hm b hb => ?_) rfl he hc hdx stB heB hd h1 fun h' hfl hsm => hQ h' ⟨B, dx, od, mA, t, st, hfl, hdB, hN, hS, fresh_of_stays K.stays hdn⟩ ((Heap.UpToSlots.of_keeps F.keep).trans hsm)
  rw [← hB]
  exact hideAll_none _ (List.mem_filterMap.mpr ⟨env, hm, hb⟩)
theorem leave_pass (K : Below A base outer g) (F : Fr g L g₂ m) (R : Raised base (envOf name scope L a cd :: outer) e sym s'.heap) (hsm : g₂.UpToSlots s'.heap)
    (hQ : ∀ h', Raised base outer e sym h' → g.UpToSlots h' → Q () { s' with heap := h' }) :
    wpAny M (A.deeper (envOf name scope L a cd)) (leaving (envOf name scope L a cd) (.ref e)) Q E s' := by
  obtain ⟨B, dx, od, mA, t, hB, hfl, hd, hN, hS, hz⟩ := R
  exact exc_leave_next (Around.frames_deeper K.stack) rfl hfl fun h' x1 x2 => hQ h' ⟨B, dx, od, mA, t, hB, x1, hd, hN, hS, hz⟩ ((Heap.UpToSlots.of_keeps F.keep).trans (hsm.trans x2))
end
section
variable {M : Model} {A : Around} {E : Value → Shared → Prop}
variable {nm q : Str} {C N : Addr} {bs bm : List Value} {hdct : Bool} {sn : List Str} {sub : List Value} {ab : Bool} {col : Option Bool} {dd : Option Addr} {k0 k1 k2 k3 k5 : Option Value} {newId : String}
theorem raise_made {env : Env} {s : Shared} {x : Sem Value} {Q : Flow → Shared → Prop} (hbase : bm.contains (.type "BaseException") = true) (hh : A.handled = none)
    (h : wpAny M A x (fun v s₁ => ∃ e dx t, v = .ref e ∧ s₁.heap.get? C = some (excClassObj nm q C N bs bm hdct sn sub ab col dd k0 k1 k2 k3 k5 newId) ∧ s₁.heap.get? e = some { cls := .ref C, dict := some dx, data := .fields #[.ref t, .none, .none, .none, .bool false, .none] } ∧ E (.ref e) s₁) E s) :
    wpAny M A (raiseStmt env (some x) none) Q E s := by
  have hcB : (Value.ref C :: bm).contains (.type "BaseException") = true := by rw [List.contains_cons, hbase, Bool.or_true]
  unfold raiseStmt
  refine wpAny_bind (wpAny_mono h (fun v s₁ h₁ => ?_) fun _ _ x => x)
  obtain ⟨e, dx, t, rfl, hC, he, hE⟩ := h₁
  obtain ⟨hp, g, d, tk, os⟩ := s₁
  repeat (first | with_reducible refine wpAny_loadPart_at he ?_ | with_reducible refine wpAny_loadPart_at hC ?_ | (with_reducible refine wpAny_isSubtype_exc hC ?_; rw [hcB]) | wp_step)
  exact wpAny_raiseNew_none hh hE
theorem Raise_sig {env : Env} {s : Shared} {f : Expr} {args : List Expr} {cpos pos : Pos} {Q : Flow → Shared → Prop} (hbase : bm.contains (.type "BaseException") = true) (hh : A.handled = none)
    (h : wpAny M A (eval (.Call f args [] cpos) env) (fun v s₁ => ∃ e dx t, v = .ref e ∧ s₁.heap.get? C = some (excClassObj nm q C N bs bm hdct sn sub ab col dd k0 k1 k2 k3 k5 newId) ∧ s₁.heap.get? e = some { cls := .ref C, dict := some dx, data := .fields #[.ref t, .none, .none, .none, .bool false, .none] } ∧ E (.ref e) s₁) E s) :
    wpAny M A (exec (.Raise (some (.Call f args [] cpos)) none pos) env) Q E s := by
  rw [arm_exec_Raise]
  simp only [evalOpt, Option.map]
  refine wpAny_bind (wpAny_standAt (raise_made hbase hh (wpAny_bind (wpAny_mono h (fun v s₁ h₁ => wpAny_bind (wpAny_standAt (wpAny_pure h₁))) fun _ _ x => x))))
end

end
noncomputable section
--WALK
section
open PySem.Builtin PySem.Builtin.ObjectAttr
variable {prog : Program} {w : World} {A : Around} {E : Value → Shared → Prop} {h : Heap} {g : Array GenState} {d : Drawn} {t : Nat} {os : OsState}
variable {nm q : Str} {C N x : Addr} {bs bm : List Value} {sn : List Str} {sub : List Value} {ab : Bool} {col : Option Bool} {dd : Option Addr} {k0 k1 k2 k3 k5 : Option Value} {B newId sa owner : String} {mN : Str → Option Value} {name : Str} {v : Value}
/-- the first store into an object without a dict -/
theorem store_first {o : Obj} {Q : Unit → Shared → Prop} (SF : StoreFacts B bm sa owner)
    (hC : h.get? C = some (excClassObj nm q C N bs bm true sn sub ab col dd k0 k1 k2 k3 k5 newId)) (hn : h.Ns N mN) (hns : mN "__setattr__" = none) (hna : mN name = none)
    (hB : typeLookup (.type B) name = pure none) (hx : h.get? x = some o) (hc : o.cls = .ref C) (hnc : ∀ c, o.data ≠ .cls c) (hdn : o.dict = none)
    (hq : ∀ h' tk' dx, h'.get? x = some { cls := o.cls, dict := some dx, data := o.data, slots := o.slots } → h.get? dx = none → dx ≠ x → h'.Ns1 dx (fun y => if y = name then some v else none) → (∀ b ob, b ≠ x → h.get? b = some ob → h'.get? b = some ob) → Q () ⟨h', g, d, tk', os⟩) :
    wpAny (model prog w) A (setAttr (.ref x) name v) Q E ⟨h, g, d, t, os⟩ := by
  have f3 := SF.slot.bind (.ref x)
  unfold setAttr callSpecial? specialOf
  repeat (any_goals (first | assumption | (with_reducible refine wpAny_loadPart_at hx ?_; rw [hc]) | (with_reducible refine wpAny_typeLookup_exc hC hn SF.mro SF.slot.lookup ?_; rw [hns]) | wp_step))
  refine codeAny_call_builtin SF.slot.plain SF.entry (wpAny_check_sa SF hC hx hc ?_)
  have hpass := SF.passes (.ref x)
  unfold Builtin.«object.__setattr__»
  repeat (first | rw [refuse_eq] | (rw [refuseLoop_ref, hpass]) | (with_reducible refine wpAny_loadPart_at hx ?_; rw [hc]) | with_reducible refine wpAny_mroOf_exc hC ?_ | (with_reducible refine wpAny_typeLookup_exc hC hn SF.mro hB ?_; rw [hna]) | wp_step)
  rw [hdn, if_neg (by simp [typeHasDict])]
  split
  · rename_i hcd
    cases hcd
  split
  · rename_i c hcd
    exact absurd hcd (hnc c)
  have hx₁ : (h.push { cls := .type "dict", data := .dict #[] }).get? x = some o := Heap.get?_push_of_some _ hx
  have hxs : x ≠ h.objs.size := Nat.ne_of_lt (Heap.lt_size hx)
  refine wpAny_bind (wpAny_alloc' ?_)
  refine wpAny_bind (wpAny_update' hx₁ ?_)
  refine wpAny_pure ?_
  have hgd : ((h.push { cls := .type "dict", data := .dict #[] }).update x fun o => { cls := o.cls, dict := some h.objs.size, data := o.data, slots := o.slots }).get? h.objs.size = some { cls := .type "dict", data := .dict #[] } :=
    (Heap.get?_update_ne _ _ _ _ hxs.symm).trans (Heap.get?_push_at rfl rfl)
  have hnd : ((h.push { cls := .type "dict", data := .dict #[] }).update x fun o => { cls := o.cls, dict := some h.objs.size, data := o.data, slots := o.slots }).Ns h.objs.size (fun _ => none) :=
    ⟨_, #[], _, hgd, rfl, fun e he => absurd he (by simp), fun _ => rfl⟩
  show wpAny _ _ (storeInDict h.objs.size (.str name _) name v) _ _ _
  unfold storeInDict newKeyGuard
  refine wpAny_bind (wpAny_pure (wpAny_bind (wpAny_nsSet1 (Heap.Ns1.of_empty hnd) fun h' hn' hs => ?_)))
  obtain ⟨oD, esD, epD, hoD, hdD, hcD⟩ := hn'.count (Within.cons name v Within.nil)
  refine wpAny_bind (wpAny_lookBehind hoD (by rw [hdD]; exact pastItsLine_dict (Nat.le_trans hcD (by rw [List.length_cons, List.length_nil, sizeLine_eq]; omega))) ?_)
  wp_walk
  repeat (any_goals (first | assumption | wp_step))
  refine hq h' _ h.objs.size ?_ (Heap.get?_none_of_le (Nat.le_refl _)) hxs.symm hn' (fun b ob hbx hb => ?_)
  · refine (hs.2 x hxs).trans (Heap.get?_update_self _ hx₁ ?_)
    have hfr := (Heap.get?_some_iff.mp hx).2
    obtain ⟨oc, od, odt, osl⟩ := o
    cases odt <;> first | rfl | exact hfr
  · exact (hs.2 b (Nat.ne_of_lt (Heap.lt_size hb))).trans ((Heap.get?_update_ne _ _ _ _ hbx).trans (Heap.get?_push_of_some _ hb))
end
section
variable {prog : Program} {w : World} {p : Program} {loose : List Str} {mean : ExcName → Option Value} {mg mb : Str → Option Value}
variable {A : Around} {s : Shared} {Q E : Value → Shared → Prop}
noncomputable abbrev cls38 : Obj := excClassObj (Str.ofString "LispSignal") (Str.ofString "LispSignal") 38 37 [.type "Exception"] [.type "Exception", .type "BaseException", .type "object"] true [] [] false none none (some (.ref 22)) none (some (.str (Str.ofString "LispSignal") 196)) (some (.str (Str.ofString "LispSignal") 204)) (some (.bool true)) "Exception.__new__"
theorem lk38 {H : Heap} (X : (hd.heap_39 w.params).In H) : H.get? 38 = some cls38 := X _ _ (by k_is)
theorem ns_some_of {K : Frag} {h : Heap} {N : Addr} {mg : Str → Option Value} {n : Str} {v : Value} (X : K.In h) (G : h.Ns N mg) (e : nsIn K N n = some (some v)) : mg n = some v := by
  obtain ⟨o, es, ep, ho, hd, _, hf⟩ := G
  unfold nsIn at e
  split at e
  · rename_i c d es' n' sl q
    have := X _ _ q
    rw [ho] at this
    cases this
    cases hd
    split at e
    · rename_i en he
      cases e
      rw [← hf]
      unfold nsFind findBy
      rw [← Array.find?_toList, he]
      rfl
    · split at e <;> cases e
  · cases e
theorem nsOk_of {K : Frag} {N : Addr} {c : Value} {d : Option Addr} {es : Array DictEntry} {n : Nat} {sl : Array (Option Value)} (h : K.lookup N = some ⟨c, d, .dict es n, sl⟩) (e : (es.all fun e => match e.key with | .str _ _ => true | _ => false) = true) : nsOkIn K N = true := by
  unfold nsOkIn
  rw [h]
  exact e
theorem ns37 {H : Heap} (X : (hd.heap_39 w.params).In H) : ∃ mN, H.Ns 37 mN ∧ mN "__init__" = some (.ref 35) ∧ mN "__setattr__" = none ∧ mN (Str.ofString "symbol") = none ∧ mN (Str.ofString "data") = none ∧ mN "__getattribute__" = none ∧ mN "__getattr__" = none := by
  have G : H.Ns 37 (H.nsMap 37) := .of_isNs (isNs_of_in X (nsOk_of (by k_is) (by simp)))
  exact ⟨_, G, ns_some_of X G (by k_is), ns_none_of X G (by k_is), ns_none_of X G (by k_is), ns_none_of X G (by k_is), ns_none_of X G (by k_is), ns_none_of X G (by k_is)⟩
end

end
noncomputable section
--WALK
section
variable {prog : Program} {w : World} {p : Program} {loose : List Str} {mean : ExcName → Option Value} {mg mb : Str → Option Value}
variable {A : Around} {s : Shared} {Q E : Value → Shared → Prop}
theorem lk_symbol : typeLookup (.type "Exception") (Str.ofString "symbol") = pure none := by rw [typeLookup_type, builtinLookup_eq_fast]; kernel_rfl
theorem lk_data : typeLookup (.type "Exception") (Str.ofString "data") = pure none := by rw [typeLookup_type, builtinLookup_eq_fast]; kernel_rfl
theorem ns1_obj {h : Heap} {d : Addr} {m : Str → Option Value} (x : h.Ns1 d m) : ∃ o, h.get? d = some o ∧ LCg.NsObj o m := by
  obtain ⟨o, es, ep, e1, e2, e3, _, e4⟩ := x
  exact ⟨o, e1, es, ep, e2, e3, e4⟩
local macro_rules | `(tactic| walk_at "setAttr ref") => `(tactic| (k_here; refine Hold.out ?_))
set_option maxHeartbeats 4000000 in
theorem c_lisp_init {e dl : Addr} {fs : Array Value} {sym : Str} {ts : Tok} (S : Sur w p loose mean mg mb A (s.heap.hide e) 1) (hD : s.heap.get? e = some { cls := .ref 38, data := .fields fs })
    (hret : ∀ dx od mA h' tk', (∀ b o, b ≠ e → s.heap.get? b = some o → h'.get? b = some o) → h'.get? e = some { cls := .ref 38, dict := some dx, data := .fields fs } → s.heap.get? dx = none → @Ne Nat dx e → h'.get? dx = some od → LCg.NsObj od mA → mA (Str.ofString "symbol") = some (.str sym ts) →
      Q .none { s with heap := h', toks := tk' }) :
    wpAny (model prog w) A (call (.ref 35) [.ref e, .str sym ts, .ref dl]) Q E s := by
  obtain ⟨H, gs, dr, tk, os⟩ := s
  obtain ⟨hd0, dp, fs, gd, un⟩ := A
  obtain rfl : hd0 = none := S.hand
  (try dsimp only at *)
  refine enterM (binds := [(Str.ofString "self", _), (Str.ofString "symbol", _), (Str.ofString "data", _)]) S hD (by k_is) (by k_is) (BindsTo.of_eq rfl) (locs rfl) ?_ rfl rfl rfl (by decide)
  intro g base outer L' h₁ eg B' X' T' hd hu hh F' N'
  obtain rfl : fs = some outer := B'.stack
  (try dsimp only at *)
  subst eg
  generalize eg : Heap.hide H _ = g at *
  have hC := lk38 X'
  obtain ⟨mN, hN, hi, hsa, hsy, hda, hga⟩ := ns37 X'
  have he1 := (N' _ (List.Mem.head _)).1
  have hge := (N' _ (List.Mem.head _)).2.2
  have heL := (N' _ (List.Mem.head _)).2.1
  have hne : e ≠ 38 := by
    intro q
    rw [q, hC] at hge
    cases hge
  k_steps
  unfold Hold
  refine store_first PySem.F.store_Exception (F'.keep _ _ hC) (hN.keeps F'.keep) hsa hsy lk_symbol he1 rfl (fun c q => by cases q) rfl ?_
  intro h2 tk2 dx k1 k2 k3 k4 k5
  have F2 := Fr.mk (F'.ns.at' fun o q => k5 _ _ (Ne.symm heL) q) (fun b o q => k5 b o (fun z => by rw [z, hge] at q; cases q) (F'.keep b o q)) F'.above
  have hdg : g.get? dx = none := by
    cases q : g.get? dx with
    | none => rfl
    | some o => have := F'.keep _ _ q; rw [k2] at this; cases this
  have hdL : dx ≠ L' := by
    intro q
    obtain ⟨o, es, ep, ho, _⟩ := F'.ns
    rw [← q, k2] at ho; cases ho
  have keep1 := keptM eg.symm F'
  clear F' N'
  k_steps
  unfold Hold
  refine store_attr PySem.F.store_Exception (F2.keep _ _ hC) (hN.keeps F2.keep) hsa hda lk_data hne ⟨_, k1, rfl, (fun c q => by cases q), .inr ⟨dx, rfl, k3, k4⟩⟩ ?_ (Within.cons _ _ Within.nil)
  intro h3 tk3 I3 k6 k7
  obtain ⟨o3, ho3, hc3, hd3, hs3, hx3⟩ := k7 _ k1
  have hdx := hx3 dx rfl
  obtain ⟨o3', ho3', _, _, hI⟩ := I3
  obtain rfl : o3' = o3 := Option.some.inj (ho3'.symm.trans ho3)
  rcases hI with ⟨hn0, _⟩ | ⟨d', hd', hde, hNs⟩
  · rw [hdx] at hn0; cases hn0
  obtain rfl : dx = d' := Option.some.inj (hdx.symm.trans hd')
  obtain ⟨od, hod, hNO⟩ := ns1_obj hNs
  have hobj : h3.get? e = some { cls := .ref 38, dict := some dx, data := .fields fs } := by
    obtain ⟨c3, d3, da3, sl3⟩ := o3'
    cases hc3; cases hd3; cases hs3; cases hdx
    exact ho3
  have hdH : H.get? dx = none := by
    cases q : H.get? dx with
    | none => rfl
    | some o => have := keep1 _ _ k3 q; rw [k2] at this; cases this
  have fin := hret dx od _ h3 tk3 (fun b o hb q => k6 b o hb (fun o₀ dx' q1 q2 z => by
      rw [k1] at q1
      cases q1
      cases q2
      have := keep1 _ _ hb q
      rw [z, k2] at this; cases this) (k5 b o hb (keep1 _ _ hb q))) hobj hdH k3 hod hNO rfl
  k_steps
  exact fin

theorem Sur.up {H H' : Heap} {n : Nat} (S : Sur w p loose mean mg mb A H n) (k : ∀ b o, H.get? b = some o → H'.get? b = some o) : Sur w p loose mean mg mb A H' n := by
  obtain ⟨⟨base, outer, K⟩, X, T, hd, hu, hh⟩ := S
  exact ⟨⟨base, outer, K.stack, fun b o e => k _ _ (K.stays b o e), K.frames.of_keeps fun b o e _ => ⟨o, k _ _ e, rfl⟩⟩, X.keeps k, T.keeps k, hd, hu, hh⟩
theorem Sur.make {H : Heap} {n : Nat} {C : Addr} {vals : List Value} (S : Sur w p loose mean mg mb A H (n + 1)) : Sur w p loose mean mg mb (A.under (.builtin "type.__call__" ⟨.ref C :: vals, []⟩)) H n := by
  obtain ⟨⟨base, outer, K⟩, X, T, hd, hu, hh⟩ := S
  refine ⟨⟨base, outer, ?_, K.stays, K.frames⟩, X, T, by rw [depth_under_make]; omega, by rw [units_under_make]; omega, ?_⟩
  · have := K.stack
    obtain ⟨hd0, dp, fs, gd, un⟩ := A
    cases this
    rfl
  · obtain ⟨hd0, dp, fs, gd, un⟩ := A
    exact hh
theorem c_new_lisp {dl : Addr} {sym : Str} {ts : Tok} (S : Sur w p loose mean mg mb A s.heap 2)
    (hret : ∀ e t dx od mA h' tk', s.heap.StaysIn h' → s.heap.get? e = none → h'.get? e = some { cls := .ref 38, dict := some dx, data := .fields #[.ref t, .none, .none, .none, .bool false, .none] } → s.heap.get? dx = none → @Ne Nat dx e → h'.get? dx = some od → LCg.NsObj od mA →
      mA (Str.ofString "symbol") = some (.str sym ts) → Q (.ref e) { s with heap := h', toks := tk' }) :
    wpAny (model prog w) A (call (.ref 38) [.str sym ts, .ref dl]) Q E s := by
  have X := S.inK
  obtain ⟨mN, hN, hi, hsa, hsy, hda, hga⟩ := ns37 X
  obtain ⟨H, gs, dr, tk, os⟩ := s
  dsimp only at *
  refine wpAny_call_exc_init PySem.F.excBase_Exception (lk38 X) hN hi (X _ _ (by k_is)) rfl fun h' e hm => ?_
  obtain ⟨t, he, htn, ht⟩ := hm.there
  have hk : ∀ b o, H.get? b = some o → (h'.hide e).get? b = some o := fun b o q => (Heap.hide_ne h' (a := e) (b := b) (fun z => by have := hm.new; rw [← z, q] at this; cases this)).trans (hm.keeps b o q)
  refine c_lisp_init (s := ⟨h', gs, dr, tk, os⟩) ((S.make (C := 38) (vals := [.str sym ts, .ref dl])).up hk) he fun dx od mA h'' tk'' q1 q2 q3 q4 q5 q6 q7 => ⟨rfl, hret e t dx od mA h'' tk'' (fun b o q => q1 b o (fun z => by have := hm.new; rw [← z, q] at this; cases this) (hm.keeps b o q)) hm.new q2 ?_ q4 q5 q6 q7⟩
  cases q : H.get? dx with
  | none => rfl
  | some o => have := hm.keeps _ _ q; rw [q3] at this; cases this
end

end
noncomputable section
--WALK
section
variable {prog : Program} {w : World} {A : Around} {E : Value → Shared → Prop} {h : Heap} {g : Array GenState} {d : Drawn} {t : Nat} {os : OsState} {a : Addr} {o : Obj} {vs : Array Value}
  {nm q : Str} {C N dx : Addr} {bs : List Value} {sn : List Str} {sub : List Value} {ab : Bool} {col : Option Bool} {dd : Option Addr} {k0 k1 k2 k3 k5 : Option Value} {newId : String} {mN mA : Str → Option Value} {name : Str} {v : Value}
theorem mro_exc : mroOf (.type "Exception") = pure [.type "Exception", .type "BaseException", .type "object"] := by rw [mroOf_type]; kernel_rfl
theorem lk_g_exc : typeLookup (.type "Exception") "__getattr__" = pure none := by rw [typeLookup_type, builtinLookup_eq_fast]; kernel_rfl
theorem field_entry {tk : Tok} {Q : Fin → Shared → Prop}
    (hC : h.get? C = some (excClassObj nm q C N bs [.type "Exception", .type "BaseException", .type "object"] true sn sub ab col dd k0 k1 k2 k3 k5 newId)) (hn : h.Ns N mN) (hna : mN name = none)
    (hB : typeLookup (.type "Exception") name = pure none) (hx : h.get? a = some o) (hc : o.cls = .ref C) (hd : o.data = .fields vs) (hdx : o.dict = some dx) (hns : h.Ns dx mA) (hv : mA name = some v) (hq : Q (.done (.ret v)) ⟨h, g, d, t, os⟩) :
    wpAny (model prog w) A (Builtin.«object.__getattribute__» ⟨[.ref a, .str name tk], []⟩) Q E ⟨h, g, d, t, os⟩ := by
  unfold Builtin.«object.__getattribute__»
  repeat (first | (with_reducible refine wpAny_loadPart_at hx ?_; rw [hc]) | (with_reducible refine wpAny_typeLookup_exc hC hn mro_exc hB ?_; rw [hna]) | wp_step)
  rw [hd]
  dsimp only
  unfold instanceDict
  repeat (first | (with_reducible refine wpAny_loadPart_at hx ?_; rw [hc]) | with_reducible refine wpAny_loadPart_at hC ?_ | wp_step)
  rw [hdx]
  repeat (first | (with_reducible refine wpAny_nsGet hns ?_; rw [hv]) | wp_step)
  exact hq
theorem field_check {M : Model} {nameV : Value} {Q : Unit → Shared → Prop} (hC : h.get? C = some (excClassObj nm q C N bs [.type "Exception", .type "BaseException", .type "object"] true sn sub ab col dd k0 k1 k2 k3 k5 newId))
    (hx : h.get? a = some o) (hc : o.cls = .ref C) (hq : Q () ⟨h, g, d, t, os⟩) : wpAny M A (checkBuiltinCall "BaseException.__getattribute__" ⟨[.ref a, nameV], []⟩) Q E ⟨h, g, d, t, os⟩ := by
  have hk : builtinKind "BaseException.__getattribute__" = some .slot := by decide +kernel
  have hsplit : splitId "BaseException.__getattribute__" = some ("BaseException", "__getattribute__") := by decide +kernel
  have hcB : (Value.ref C :: [.type "Exception", .type "BaseException", .type "object"]).contains (.type "BaseException") = true := by rw [List.contains_cons]; simp
  have ha := F.args_bexc_ga (.ref a) nameV
  simp only [checkBuiltinCall, hk, hsplit]
  refine wpAny_bind ?_
  · unfold isInstance
    repeat (first | (with_reducible refine wpAny_loadPart_at hx ?_; rw [hc]) | (with_reducible refine wpAny_isSubtype_exc hC ?_; rw [hcB]) | wp_step)
    exact hq
theorem field_by {tk : Tok} {fill expr : Bool} {Q : Value → Shared → Prop} (hC : h.get? C = some (excClassObj nm q C N bs [.type "Exception", .type "BaseException", .type "object"] true sn sub ab col dd k0 k1 k2 k3 k5 newId)) (hn : h.Ns N mN)
    (hna : mN name = none) (hga : mN "__getattribute__" = none) (hgg : mN "__getattr__" = none) (hB : typeLookup (.type "Exception") name = pure none) (hx : h.get? a = some o) (hc : o.cls = .ref C) (hd : o.data = .fields vs) (hdx : o.dict = some dx) (hns : h.Ns dx mA) (hv : mA name = some v)
    (FB : Slot "Exception" "__getattribute__" "BaseException.__getattribute__") (hh : handedOut v = pure v) (hq : Q v ⟨h, g, d, t, os⟩) :
    wpAny (model prog w) A (getAttrBy (.ref a) (.str name tk) fill expr) Q E ⟨h, g, d, t, os⟩ := by
  have f3 := FB.bind (.ref a)
  have hx0 : (expr && onTheHeap (Value.builtin "BaseException.__getattribute__")) = false := by cases expr <;> rfl
  have hx2 : (Value.builtin "BaseException.__getattribute__" == Value.builtin "object.__getattribute__") = false := by decide +kernel
  have hx1 : (onTheHeap (Value.ref C) && Value.builtin "BaseException.__getattribute__" == Value.builtin "object.__getattribute__") = false := by rw [hx2]; rfl
  repeat (any_goals (first | assumption | (with_reducible refine wpAny_loadPart_at hx ?_; rw [hc]) | (with_reducible refine wpAny_typeLookup_exc hC hn mro_exc FB.lookup ?_; rw [hga]) | (with_reducible refine wpAny_typeLookup_exc hC hn mro_exc lk_g_exc ?_; rw [hgg]) | wp_step))
  refine codeAny_call_builtin FB.plain F.entry_bexc_ga (field_check hC hx hc (field_entry hC hn hna hB hx hc hd hdx hns hv ?_))
  show wpAny _ _ (handedOut v) _ _ _
  rw [hh]
  exact wpAny_pure hq

theorem field_get {expr : Bool} {Q : Value → Shared → Prop} (hC : h.get? C = some (excClassObj nm q C N bs [.type "Exception", .type "BaseException", .type "object"] true sn sub ab col dd k0 k1 k2 k3 k5 newId)) (hn : h.Ns N mN)
    (hna : mN name = none) (hga : mN "__getattribute__" = none) (hgg : mN "__getattr__" = none) (hB : typeLookup (.type "Exception") name = pure none) (hx : h.get? a = some o) (hc : o.cls = .ref C) (hd : o.data = .fields vs) (hdx : o.dict = some dx) (hns : h.Ns dx mA) (hv : mA name = some v)
    (FB : Slot "Exception" "__getattribute__" "BaseException.__getattribute__") (hh : handedOut v = pure v) (hq : Q v ⟨h, g, d, t + 1, os⟩) :
    wpAny (model prog w) A (getAttr (.ref a) name expr) Q E ⟨h, g, d, t, os⟩ := by
  unfold getAttr
  repeat (any_goals (first | assumption | with_reducible apply field_by hC hn hna hga hgg hB hx hc hd hdx hns hv FB hh | wp_step))
end

end
noncomputable section
--WALK
section
variable {prog : Program} {w : World} {p : Program} {loose : List Str} {mean : ExcName → Option Value} {mg mb : Str → Option Value}
variable {A₀ : Around} {E : Value → Shared → Prop} {s' : Shared} {base g h : Heap} {outer : List Env} {L a e : Addr} {m : Str → Option Value} {name : Str} {scope : Scope} {cd : Value} {sym : Str}
  {Lw : Addr} {ow : Obj} {n x : Str} {b₀ : Stmt} {suite : List Stmt} {pos np : Pos} {rest : List ExceptHandler} {Q : Flow → Shared → Prop}
/-- the caught signal: its object, its fields -/
noncomputable def SigAt (news : List (Addr × Obj)) (e : Addr) (sym : Str) : Prop := ∃ oe vs dx od mA t, (e, oe) ∈ news ∧ (dx, od) ∈ news ∧ oe.cls = .ref 38 ∧ oe.dict = some dx ∧ oe.data = .fields vs ∧ LCg.NsObj od mA ∧ mA (Str.ofString "symbol") = some (.str sym t)
theorem caught_sig (K : Below A₀ base outer g) (F : Fr base L h m) (hsm : h.UpToSlots s'.heap) (R : Raised base (envOf name scope L a cd :: outer) e sym s'.heap)
    (X : (hd.heap_39 w.params).In base) (T : Top p loose mean mg mb base) (ex : nsIn (hd.heap_39 w.params) mainGlobals x = some (some (.ref 38)))
    (hw : s'.heap.get? Lw = some ow) (hwf : ∀ vs, ow.data ≠ .fields vs) (hwb : base.get? Lw = none) (hwL : Lw ≠ L)
    (k : ∀ h' news tk sl, Fr base L h' (fun y => if y = n then some (.ref e) else m y) → News base L h' news → SigAt news e sym → (Lw, { ow with slots := sl }) ∈ news →
      wpAny (model prog w) ((A₀.deeper (envOf name scope L a cd)).mark (some (.ref e))) (execs (b₀ :: suite) (envOf name scope L a cd))
        (fun f s₄ => wpAny (model prog w) (A₀.deeper (envOf name scope L a cd)) (do bindName (envOf name scope L a cd) n .none; unbindBehindTheSuite (envOf name scope L a cd) n pos) (fun _ s₅ => Q f s₅) E s₄)
        (AsSuiteRaised (model prog w) ((A₀.deeper (envOf name scope L a cd)).mark (some (.ref e))) (envOf name scope L a cd) n pos (notedBy (model prog w) ((A₀.deeper (envOf name scope L a cd)).mark (some (.ref e))) (envOf name scope L a cd) (cameBackBy (model prog w) (A₀.deeper (envOf name scope L a cd)) (envOf name scope L a cd) E)))
        { s' with heap := h', toks := tk })
    (hk : scope.kind = .function := by rfl) (hlo : (envOf name scope L a cd).kindOf n = some .local := by rfl) (hx : (envOf name scope L a cd).kindOf x = some .globalImplicit := by rfl) (hdb : (x == ("__debug__" : Str)) = false := by decide) :
    wpAny (model prog w) (A₀.deeper (envOf name scope L a cd)) (noteFrame (.ref e) (envOf name scope L a cd))
      (fun _ s₂ => wpAny (model prog w) (A₀.deeper (envOf name scope L a cd)) (setFlight (.ref e) none) (fun _ s₃ =>
        wpAny (model prog w) (A₀.deeper (envOf name scope L a cd)) (handleBy (.ref e) (envOf name scope L a cd) (.ExceptHandler (some (.Name x np)) (some n) (b₀ :: suite) pos :: rest)) Q E s₃) E s₂) E s' := by
  obtain ⟨B, dx, od, mA, t, hB, hfl, hdo, hN, hS, hdb0⟩ := R
  refine exc_note (Around.frames_deeper K.stack) rfl hfl fun h₄ k1 k2 k3 k4 => ?_
  refine exc_land k1 hfl.2.1 k2 k3 fun h₅ hfl5 k5 => ?_
  have hBL : B.get? L = none := by
    obtain ⟨_, ⟨L', _, hf, hn', _⟩, _⟩ := hfl5.2.2.1
    obtain rfl : L = L' := Option.some.inj hf
    exact hn'
  have F₅ : Fr base L h₅ m := Fr.of_stays F (fun b o q => hfl5.1 _ _ (hB _ _ q)) (hsm.trans (k4.trans k5))
  obtain ⟨_, _, hl5, oe, vs, T0, oT, ts, he, ⟨hc, hdx⟩, hd, h1, hnT, hTe, hT, hdT, h3⟩ := id hfl5
  have hC := F₅.keep _ _ (lk38 X)
  refine wpAny_handleBy_cons (codeAny_handlers_test (name_K F₅ X (topRead_of T) ex ?_ hk hx hdb)) (by intro q; cases q)
  refine wpAny_excMatches_sub_self hC he hc (by decide) (codeAny_handlers_suite_as ?_)
  refine exc_land hfl5.1 hfl5.2.1 hfl5.2.2.1 hfl5.2.2.2 fun h₆ hfl6 k6 => ?_
  obtain ⟨_, heB, hl6, oe, vs, T0, oT, ts, he, ⟨hc, hdx⟩, hd, _⟩ := id hfl6
  have F₆ : Fr base L h₆ m := Fr.of_stays F (fun b o q => hfl6.1 _ _ (hB _ _ q)) (hsm.trans ((k4.trans k5).trans k6))
  have hbe : base.get? e = none := fresh_of_stays hB heB
  have heL : e ≠ L := by
    intro q
    obtain ⟨o, es, ep, ho, hdd, _⟩ := F₆.ns
    rw [← q, he] at ho
    cases ho
    rw [hd] at hdd; cases hdd
  have hdL : dx ≠ L := by
    intro q
    rw [← q, hdo] at hBL; cases hBL
  obtain ⟨sl, hsl⟩ := ((k4.trans k5).trans k6) _ _ hw hwf
  have N₆ : News base L h₆ [(e, oe), (dx, od), (Lw, { ow with slots := sl })] := fun q hq => by
    rcases List.mem_cons.mp hq with rfl | hq
    · exact ⟨he, heL, hbe⟩
    · rcases List.mem_cons.mp hq with rfl | hq
      · exact ⟨hfl6.1 _ _ hdo, hdL, hdb0⟩
      · rw [List.mem_singleton.mp hq]
        exact ⟨hsl, hwL, hwb⟩
  refine stN F₆ N₆ (fun h₇ F₇ N₇ => ?_) hk hlo
  exact k h₇ _ _ sl F₇ N₇ ⟨oe, vs, dx, od, mA, t, .head _, .tail _ (.head _), hc, hdx, hd, hN, hS⟩ (.tail _ (.tail _ (.head _)))
end

end
noncomputable section
noncomputable section
/-! blocks and functions that raise LispSignal -/
noncomputable def SigMade (E : Value → Shared → Prop) (v : Value) (s₁ : Shared) : Prop := ∃ e dx t, v = .ref e ∧ s₁.heap.get? 38 = some cls38 ∧ s₁.heap.get? e = some { cls := .ref 38, dict := some dx, data := .fields #[.ref t, .none, .none, .none, .bool false, .none] } ∧ E (.ref e) s₁
theorem Raise38 {M : Model} {A : Around} {E : Value → Shared → Prop} {env : Env} {s : Shared} {f : Expr} {args : List Expr} {cpos pos : Pos} {Q : Flow → Shared → Prop} (hh : A.handled = none)
    (h : wpAny M A (eval (.Call f args [] cpos) env) (SigMade E) E s) :
    wpAny M A (exec (.Raise (some (.Call f args [] cpos)) none pos) env) Q E s := Raise_sig (by decide) hh h
section
variable {w : World} {g : Gl w} {n : Nat} {c : Act w} {B : Heap} {l : List Env} {st st1 : AS} {sym : Str}
/-- the signal e is just made, in c's block -/
noncomputable def SigX (c : Act w) (sym : Str) (e : Addr) (h : Heap) : Prop :=
  ∃ dx t od mA ts m, Fr c.H c.L h m ∧ h.get? e = some { cls := .ref 38, dict := some dx, data := .fields #[.ref t, .none, .none, .none, .bool false, .none] } ∧ c.H.get? e = none ∧ h.get? dx = some od ∧ c.H.get? dx = none ∧ @Ne Nat dx c.L ∧ @Ne Nat dx e ∧ LCg.NsObj od mA ∧ mA (Str.ofString "symbol") = some (.str sym ts)
/-- it came from a call -/
noncomputable def PassX (c : Act w) (B : Heap) (l : List Env) (sym : Str) (e : Addr) (h : Heap) : Prop := ∃ h2 m, Fr c.H c.L h2 m ∧ h2.UpToSlots h ∧ Raised B l e sym h
noncomputable def ExsR (c : Act w) (B : Heap) (l : List Env) (b : List Stmt) (st : AS) (sym : Str) : Prop :=
  (∀ h m, Fr c.H c.L h m → Below c.A B l h) → ∀ W h tk, Rep c W st h → ∀ (Q : Flow → Shared → Prop) (E : Value → Shared → Prop), (∀ e h' tk', SigX c sym e h' ∨ PassX c B l sym e h' → E (.ref e) (c.sh h' tk')) → wpAny c.M c.A (execs b c.env) Q E (c.sh h tk)
noncomputable def RaiseTo (g : Gl w) (n : Nat) (f : Addr) (ps : List PV) (sym : Str) : Prop :=
  ∀ A h tk gs dr os F vs base outer, Start g n A h F [] [] ps vs → Below A base outer h → ∀ (Q E : Value → Shared → Prop), (∀ e h' tk', Raised base outer e sym h' → h.UpToSlots h' → E (.ref e) ⟨h', gs, dr, tk', os⟩) → wpAny (model g.prog w) A (call (.ref f) vs) Q E ⟨h, gs, dr, tk, os⟩
theorem wp_off {α : Type} {M : Model} {A : Around} {m : Sem α} {Q : α → Shared → Prop} {E : Value → Shared → Prop} {s : Shared} (h : wpAny M A m Q never s) : wpAny M A m Q E s := wpAny_mono h (fun _ _ x => x) fun _ _ x => x.elim
theorem ExsR_next {s : Stmt} {ss : List Stmt} (h1 : Ex1 c s st .next st1) (h2 : ExsR c B l ss st1 sym) : ExsR c B l (s :: ss) st sym := fun hB W h tk R Q E k =>
  wpAny_execs_cons (wp_off (h1 W h tk R _ fun W1 v h1' tk1 l1 R1 i1 => by
    cases i1
    exact h2 hB W1 h1' tk1 R1 _ _ k))
/-- shapes of statements -/
noncomputable def ifC (s : Stmt) : Option {y : Expr × List Stmt // ∃ e pos, s = .If y.1 y.2 e pos} := match s with | .If t b e pos => some ⟨(t, b), e, pos, rfl⟩ | _ => none
noncomputable def raiseC (s : Stmt) : Option {y : Str × List Expr // ∃ xp cp pos, s = .Raise (some (.Call (.Name y.1 xp) y.2 [] cp)) none pos} := match s with
  | .Raise (some (.Call (.Name x xp) es [] cp)) none pos => some ⟨(x, es), xp, cp, pos, rfl⟩
  | _ => none
noncomputable def retcC (s : Stmt) : Option {y : Str × List Expr // ∃ xp cp pos, s = .Return (some (.Call (.Name y.1 xp) y.2 [] cp)) pos} := match s with
  | .Return (some (.Call (.Name x xp) es [] cp)) pos => some ⟨(x, es), xp, cp, pos, rfl⟩
  | _ => none
noncomputable def ifT (s : Stmt) : Expr := match s with | .If t _ _ _ => t | _ => .Constant .none 0 default
noncomputable def ifB (s : Stmt) : List Stmt := match s with | .If _ b _ _ => b | _ => []
theorem ExsR_if {s : Stmt} {ss : List Stmt} (hs : (ifC s).isSome = true) (h : Ts c (ifT s) st true st1) (h2 : ExsR c B l (ifB s) st1 sym) : ExsR c B l (s :: ss) st sym := by
  cases e : ifC s with
  | none => rw [e] at hs; cases hs
  | some y =>
    obtain ⟨y, el, pos, rfl⟩ := y
    exact fun hB W g tk R Q E k => wpAny_execs_cons (wpAny_If (wp_off (h W g tk R _ fun W1 b' h1 tk1 l1 R1 e => by cases e; exact h2 hB W1 h1 tk1 R1 _ _ k)))
theorem EvL.plain {e : Expr} {es : List Expr} {ps : List PV} {pos : Pos} {f : Value} {W : Wd} {h : Heap} {tk : Nat} {Q E : Value → Shared → Prop} (hk : keepIn (KK w) f = true) (hs : (e :: es).all notStar = true) (R : Rep c W st h) (he : EvL c (e :: es) st ps st1)
    (k : ∀ W' vs h' tk', W.le W' → Rep c W' st1 h' → Il c ps W' vs → wpAny c.M c.A (call f vs) Q E (c.sh h' tk')) : wpAny c.M c.A (callWith pos f [] (backTo pos (starEach (e :: es) c.env)) []) Q E (c.sh h tk) := by
  have inK : ∀ {W h st}, Rep c W st h → (KK w).In h := fun ⟨_, _, R⟩ => c.X.keeps R.fr.keep
  rw [List.all_cons, Bool.and_eq_true] at hs
  exact callWith_K (K := KK w) (inK R) hk (wp_off (he pos W h tk R _ fun W' vs h' tk' l R' i => ⟨inK R', k W' vs h' tk' l R' i⟩)) (starEach_cons hs.1) (plain_args hs.2)
theorem ExsR_raise {s : Stmt} {ss : List Stmt} {x : Str} {a b : Expr} {i : Nat} (hs : (raiseC s).map (·.1) = some (x, [a, b])) (hf : ∀ xp, Ev c (.Name x xp) st (.glob (.ref 38)) st) (hst : [a, b].all notStar = true) (ha : EvL c [a, b] st [.str sym, .cell i] st1) (hn : 2 ≤ c.n) : ExsR c B l (s :: ss) st sym := by
  cases e : raiseC s with
  | none => rw [e] at hs; cases hs
  | some y =>
    obtain ⟨y, xp, cp, pos, rfl⟩ := y
    rw [e] at hs
    have hs : some y = some (x, [a, b]) := hs
    cases hs
    refine fun hB W g tk R Q E k => wpAny_execs_cons (Raise38 c.hand (Call_ (wp_off (hf xp W g tk R _ fun W1 v h1 tk1 l1 R1 i1 => ?_)) rfl))
    cases Is.glob_eq i1
    refine EvL.plain (by kernel_rfl) hst R1 ha fun W2 vs h2 tk2 l2 ⟨m, cs, R2⟩ i2 => ?_
    obtain ⟨u, vs, rfl, j1, i2⟩ := i2.cons_inv
    obtain ⟨v, rfl, j2⟩ := i2.one_inv
    obtain ⟨ts, rfl⟩ : ∃ ts, u = .str sym ts := by cases j1; exact ⟨_, rfl⟩
    obtain ⟨dl, rfl, _⟩ := j2.cell_inv
    have S : Sur w c.p c.loose c.mean c.mg c.mb c.A h2 2 := ((c.sur h2 m cs R2.fr fun p hp => R2.news p (List.mem_append_left _ hp)).le hn).mono fun b o e => of_hideAll _ e
    refine c_new_lisp (s := c.sh h2 tk2) S fun e t dx od mA h' tk' q1 q2 q3 q4 q5 q6 q7 q8 => ⟨e, dx, t, rfl, lk38 (c.X.keeps fun b o q => q1 b o (R2.fr.keep b o q)), q3, ?_⟩
    have F' : Fr c.H c.L h' m := ⟨R2.fr.ns.at' fun o e => q1 _ o e, fun b o q => q1 b o (R2.fr.keep b o q), R2.fr.above⟩
    have no : ∀ {a}, h2.get? a = none → c.H.get? a = none := fun {a} q => by
      cases z : c.H.get? a with
      | none => rfl
      | some o => have := R2.fr.keep _ _ z; rw [q] at this; cases this
    refine k e h' tk' (.inl ⟨dx, t, od, mA, ts, m, F', q3, no q2, q6, no q4, fun z => ?_, q5, q7, q8⟩)
    obtain ⟨o, es, ep, ho, _⟩ := R2.fr.ns
    rw [← z, q4] at ho; cases ho
theorem ExsR_ret {s : Stmt} {ss : List Stmt} {x : Str} {e : Expr} {es : List Expr} {f : Addr} {ps : List PV} {loc : List (Str × PV)} (hs : (retcC s).map (·.1) = some (x, e :: es)) (hf : ∀ xp, Ev c (.Name x xp) st (.glob (.ref f)) st) (hk : keepIn (KK w) (.ref f) = true) (hst : (e :: es).all notStar = true)
    (ha : EvL c (e :: es) st ps ⟨loc, []⟩) (hc : RaiseTo c.toGl c.n f ps sym) : ExsR c B l (s :: ss) st sym := by
  cases q : retcC s with
  | none => rw [q] at hs; cases hs
  | some y =>
    obtain ⟨y, xp, cp, pos, rfl⟩ := y
    rw [q] at hs
    have hs : some y = some (x, e :: es) := hs
    cases hs
    refine fun hB W g tk R Q E k => wpAny_execs_cons (wpAny_Return_some (Call_ (wp_off (hf xp W g tk R _ fun W1 v h1 tk1 l1 R1 i1 => ?_)) rfl))
    cases Is.glob_eq i1
    refine EvL.plain hk hst R1 ha fun W2 vs h2 tk2 l2 ⟨m, cs, R2⟩ i2 => ?_
    obtain rfl : cs = [] := List.eq_nil_of_length_eq_zero R2.len.symm
    exact hc c.A h2 tk2 c.gs c.dr c.os (W2.fact c.F) vs B l (R2.start i2) (hB h2 m R2.fr) _ _ fun e h' tk' r u => k e h' tk' (.inr ⟨h2, m, R2.fr, u, r⟩)
theorem raise_to {f : Nat} {args : List PV} {names : List Str} (hf : FnAtD (KK w) f names []) (hlen : names.length = args.length) (h : ∀ c B l, (Cx.of g n f).At c → ExsR c B l (bodyOf (KK w) f) ⟨names.zip args, []⟩ sym) : RaiseTo g (n + 1) f args sym := by
  intro A h0 tk gs dr os F vs base outer S B QQ EE kE
  obtain ⟨name, qual, params, body, scope, dV, kV, doc, pm, an, cdv, ct, oc, od, osl, ho, hcd, hco, hgen, hkd, hfd⟩ := fn_of hf.ok
  obtain ⟨hF, C, ⟨⟨base0, outer0, B0⟩, X, T, hdp, hu, hh⟩, ia⟩ := S
  have hF : ∀ a o, F a o → h0.get? a = some o := hF
  have X : (hd.heap_39 w.params).In h0 := X
  have T : Top g.p g.loose g.mean g.mg g.mb h0 := T
  have B0 : Below A base0 outer0 h0 := B0
  have hl0 : recursionLimit = 1000 := rfl
  have hsc : scopeOf (KK w) f = scope := by unfold scopeOf; rw [hfd]
  have hbd : bodyOf (KK w) f = body := by unfold bodyOf; rw [hfd]
  have hlv : names.length = vs.length := hlen.trans ia.length
  have hzk : (names.zip vs).map (·.1) = names := List.map_fst_zip (Nat.le_of_eq hlv)
  have hbt : BindsTo ⟨h0, gs, dr, tk, os⟩ (fnOf name qual params body scope dV kV doc pm an cdv ct) ⟨vs, []⟩ (names.zip vs) := by
    have := hf.bind vs hlv.symm ⟨h0, gs, dr, tk, os⟩ X
    rw [List.append_nil] at this
    exact hfd ▸ this
  have hcell := hf.cell
  have hl := hf.loc
  rw [hsc] at hcell hl
  refine wpAny_call (codeAny_call_def (fd := fnOf name qual params body scope dV kV doc pm an cdv ct) (body := body) (binds := names.zip vs) (by omega) (X _ _ ho) rfl T.nolimit (codeRec_of X hcd) rfl hbt
    (fun x hx => of_decide_eq_true (List.all_eq_true.mp hcell x hx)) (fun y hy => ?_) (fun h₁ hns hk₁ => ?_) hco hgen hkd)
  · have := List.mem_map_of_mem (f := (·.1)) hy
    rw [hzk] at this
    exact of_decide_eq_true (List.all_eq_true.mp hl _ this)
  · let c : Act w := { g with env := envOf qual scope h0.objs.size f cdv, A := A.deeper (envOf qual scope h0.objs.size f cdv), H := h0, L := h0.objs.size, n := n, gs, dr, os, F, hF, X, T,
                              sur := fun h m cs' F' N' => by
                                obtain ⟨FG, BG, st', _⟩ := groundX (R := fun _ _ => True) (s := { heap := h }) (A := A.deeper (envOf qual scope h0.objs.size f cdv)) (env := envOf qual scope h0.objs.size f cdv) B F' N' (by rw [Around.frames_deeper B.stack]) rfl hkd
                                exact ⟨⟨base, envOf qual scope h0.objs.size f cdv :: outer, BG⟩, X.keeps st', T.keeps st', by show A.depth + 1 + n ≤ 400; omega, by show A.units + 3 + 10 * n ≤ 1000; omega, hh⟩,
                              units := by show A.units + 3 < 9000; omega, hand := hh, kind := hkd, glob := rfl, blt := rfl }
    have F0 : Fr h0 h0.objs.size h₁ (fun y => (names.zip vs).reverse.lookup y) := ⟨hns, hk₁, Nat.le_refl _⟩
    have R0 : RepX c ⟨[], []⟩ ⟨names.zip args, []⟩ h₁ (fun y => (names.zip vs).reverse.lookup y) [] := by
      refine ⟨F0, fun p hp => (nomatch hp), rfl, List.nodup_nil, fun p hp => (nomatch hp), fun x p e => ?_, rfl, fun i mo e => (nil_get e).elim⟩
      obtain ⟨v, hv, iv⟩ := lk_zip ia e
      exact .frame (iv.mono (fun a o q => .inl q) fun _ _ q => q) (lookup_rev (by rw [hzk]; exact hf.nodup) hv)
    have key := h c base (envOf qual scope h0.objs.size f cdv :: outer) ⟨rfl, rfl, hsc.symm, fun _ => rfl, fun e => (nomatch e)⟩ (fun h m F => pushX B F rfl hkd) ⟨[], []⟩ h₁ (tk + (names.zip vs).length) ⟨_, _, R0⟩ (fun fl s' => QQ (match fl with | .ret v => v | _ => .none) s')
      (fun e s' => wpAny c.M c.A (leaving c.env e) (fun _ s'' => EE e s'') (fun e' s'' => EE e' s'') s') fun e h' tk' x => by
        rcases x with ⟨dx, t, od, mA, ts, m, F', q1, q2, q3, q4, q5, q6, q7, q8⟩ | ⟨h2, m, F2, u, r⟩
        · exact leave_sig B F' q1 rfl rfl rfl rfl q2 q3 q4 q5 q6 q7 q8 (fun h' R u => kE e h' tk' R u) hkd
        · exact leave_pass B F2 r u fun h' R u => kE e h' tk' R u
    rw [hbd] at key
    exact wpAny_mono key (fun _ _ x => x) (fun _ _ x => x)
noncomputable def runL (x : Cx w) (es : List Expr) (st : AS) (o : List Ora) : Option (List PV × AS × List Prop) := ((evs x 60).l es st o).data
theorem runL_evs {x : Cx w} {es : List Expr} {st st' : AS} {o : List Ora} {p : List PV} {ps : List Prop} (h : runL x es st o = some (p, st', ps)) (hp : AllP ps) : EvLG x es st p st' := Res.sound h hp
end
end

end
noncomputable section
noncomputable section
/-! scroll_up, scroll_down -/
section
variable {w : World} {g : Gl w} {n : Nat} {cs : List Int} {N : Nat} {P : Nat → Int} {D : Nat → Nat} {i k high : Nat} {z c kp : Int} {r : PV}
theorem fn_529 (P : Params) : FnAtD (hd.heap_39 P) 529 [(Str.ofString "pane"), (Str.ofString "start"), (Str.ofString "point"), (Str.ofString "count"), (Str.ofString "kept")] [] := ⟨by kernel_rfl, by kernel_rfl, by kernel_rfl, by decide +kernel, by kernel_rfl, by rintro (_ | ⟨v0, _ | ⟨v1, _ | ⟨v2, _ | ⟨v3, _ | ⟨v4, _ | ⟨v5, vs⟩⟩⟩⟩⟩⟩) h s X <;> first | (simp at h; done) | (obtain ⟨o, m, h1, h2⟩ := ds_of (T := 522) (ds := [.int 2 979]) (K := hd.heap_39 P) (by kernel_rfl) (by decide); exact binds_K X (by kernel_rfl) h1 h2 rfl (by kernel_rfl))⟩
theorem fn_537 (P : Params) : FnAtD (hd.heap_39 P) 537 [(Str.ofString "pane"), (Str.ofString "start"), (Str.ofString "point"), (Str.ofString "count"), (Str.ofString "kept")] [] := ⟨by kernel_rfl, by kernel_rfl, by kernel_rfl, by decide +kernel, by kernel_rfl, by rintro (_ | ⟨v0, _ | ⟨v1, _ | ⟨v2, _ | ⟨v3, _ | ⟨v4, _ | ⟨v5, vs⟩⟩⟩⟩⟩⟩) h s X <;> first | (simp at h; done) | (obtain ⟨o, m, h1, h2⟩ := ds_of (T := 530) (ds := [.int 2 993]) (K := hd.heap_39 P) (by kernel_rfl) (by decide); exact binds_K X (by kernel_rfl) h1 h2 rfl (by kernel_rfl))⟩
noncomputable def nm5 : List Str := [(Str.ofString "pane"), (Str.ofString "start"), (Str.ofString "point"), (Str.ofString "count"), (Str.ofString "kept")]
/-- the count: none, or a number -/
noncomputable def cvP (cn : Bool) (c : Int) : PV := match cn with | true => .none | false => .int c
noncomputable def cvOk (cn : Bool) (high : Nat) (kp c : Int) : Prop := cn = true → c = max 1 ((high : Int) - kp)
noncomputable def cvO (cn : Bool) (c : Int) : List Ora := match cn with | true => [.call (.int c) []] | false => []
noncomputable def cvQ (g : Gl w) (n : Nat) (p : PV) (kp : Int) (cn : Bool) (c : Int) : List Prop := match cn with | true => [CallTo g n 521 [p, .int kp] [] (.int c) []] | false => []
noncomputable def ar5 (w : World) (cs : List Int) (high : Nat) (a z kp : Int) (cn : Bool) (c : Int) : List PV := [paneP w cs high, .int a, .int z, cvP cn c, .int kp]
theorem cv_ok {cn : Bool} (h : cvOk cn high kp c) : AllP (cvQ g (n + 1) (paneP w cs high) kp cn c) := by
  cases cn with
  | true => exact ⟨h rfl ▸ a_screen_rows, trivial⟩
  | false => exact trivial
noncomputable def goO (pos : Bool) : List Ora := match pos with | true => [.b true, .b false] | false => [.b false]
noncomputable def upQ (N i k : Nat) (c : Int) (pos : Bool) : List Prop := match pos with
  | true => [decide (0 < c) = true, (0 : Int) ≤ 0 ∧ (0 : Int) < k ∧ (0 : Int) < 1000000, (!decide (i + 0 + 1 < N)) = false]
  | false => [decide (0 < c) = false]
theorem r529 {cn pos : Bool} : runP g n 529 nm5 (ar5 w cs high (P i) z kp cn c) [] (.call (rowsP N P D i k) [] :: (cvO cn c ++ (.b false :: (goO pos ++ [.call r []])))) =
    some (.ret r, [], CallTo g n 486 [paneP w cs high, .int (P i)] [] (rowsP N P D i k) [] :: (cvQ g n (paneP w cs high) kp cn c ++ ((decide (c < 0) = false) :: (upQ N i k c pos ++ [CallTo g n 514 [paneP w cs high, .int (P i), .int z, .int c] [] r []])))) := by
  cases cn <;> cases pos <;> kernel_rfl
noncomputable def dnO (pos : Bool) : List Ora := match pos with | true => [.b true, .call (.int 1) [], .b false] | false => [.b false]
noncomputable def dnQ (g : Gl w) (n : Nat) (cs : List Int) (a c : Int) (pos : Bool) : List Prop := match pos with
  | true => [decide (0 < c) = true, CallTo g n 113 [viewP cs] [] (.int 1) [], decide (a ≤ 1) = false]
  | false => [decide (0 < c) = false]
theorem r537 {a : Int} {cn pos : Bool} : runP g n 537 nm5 (ar5 w cs high a z kp cn c) [] (cvO cn c ++ (.b false :: (dnO pos ++ [.call r []]))) =
    some (.ret r, [], (cvQ g n (paneP w cs high) kp cn c ++ ((decide (c < 0) = false) :: (dnQ g n cs a c pos ++ [CallTo g n 514 [paneP w cs high, .int a, .int z, .int (0 - c)] [] r []])))) := by
  cases cn <;> cases pos <;> kernel_rfl
noncomputable def scR (N : Nat) (P : Nat → Int) (i high : Nat) (z c : Int) : PV := .tup [.int (P (lineOn N i c)), .int (shownPt N P (lineOn N i c) high z)]
theorem a_up_go {cn : Bool} (hc : cs.length ≤ 100) (hT : Text cs N P D) (hD : ∀ m, m < N → D m ≤ 100) (hi : i < N) (hh : 1 ≤ high) (hz1 : 1 ≤ z) (hz2 : z < P N) (hcv : cvOk cn high kp c) (h0 : 0 ≤ c) (hni : ¬ (0 < c ∧ i + 1 = N)) :
    CallTo g (n + 20) 529 (ar5 w cs high (P i) z kp cn c) [] (scR N P i high z c) [] := by
  have h9 := hT.nine
  have key : ∀ pos, AllP (upQ N i (min high (N - i)) c pos) → CallTo g (n + 20) 529 (ar5 w cs high (P i) z kp cn c) [] (scR N P i high z c) [] := fun pos hp =>
    (run_allD (fn_529 _) (r529 (n := n + 19) (D := D) (N := N) (k := min high (N - i)) (cn := cn) (pos := pos)) (List.append_nil _).symm rfl (And.intro (a_rows_from (n := n + 2) hc hT hi hh) ((cv_ok (n := n + 18) hcv).app (And.intro (by simp; omega) (hp.app (And.intro (a_scrolled (n := n) hc hT hD hi hh hz1 hz2) trivial))))) rfl (Nat.zero_le _)).call
  by_cases h : 0 < c
  · exact key true ⟨decide_eq_true h, by omega, by rw [decide_eq_true (by omega)]; rfl, trivial⟩
  · exact key false ⟨decide_eq_false h, trivial⟩
theorem a_down_go {cn : Bool} (hc : cs.length ≤ 100) (hT : Text cs N P D) (hD : ∀ m, m < N → D m ≤ 100) (hi : i < N) (hh : 1 ≤ high) (hz1 : 1 ≤ z) (hz2 : z < P N) (hcv : cvOk cn high kp c) (h0 : 0 ≤ c) (hni : ¬ (0 < c ∧ i = 0)) :
    CallTo g (n + 20) 537 (ar5 w cs high (P i) z kp cn c) [] (scR N P i high z (0 - c)) [] := by
  have h1 := hT.first
  have key : ∀ pos, AllP (dnQ g (n + 19) cs (P i) c pos) → CallTo g (n + 20) 537 (ar5 w cs high (P i) z kp cn c) [] (scR N P i high z (0 - c)) [] := fun pos hp =>
    (run_allD (fn_537 _) (r537 (n := n + 19) (a := P i) (cn := cn) (pos := pos)) (List.append_nil _).symm rfl ((cv_ok (n := n + 18) hcv).app (And.intro (by simp; omega) (hp.app (And.intro (a_scrolled (n := n) hc hT hD hi hh hz1 hz2) trivial)))) rfl (Nat.zero_le _)).call
  by_cases h : 0 < c
  · refine key true ⟨decide_eq_true h, a_begin (n := n + 18), ?_, trivial⟩
    have := hT.lt (i := 0) (j := i) (by omega) (by omega)
    simp; omega
  · exact key false ⟨decide_eq_false h, trivial⟩
theorem a_up_neg (hc : c < 0) (h : CallTo g n 537 (ar5 w cs high (P i) z kp false (0 - c)) [] r []) (hr : CallTo g n 486 [paneP w cs high, .int (P i)] [] (rowsP N P D i k) []) : CallTo g (n + 1) 529 (ar5 w cs high (P i) z kp false c) [] r [] :=
  (run_allD (fn_529 _) (show runP g n 529 nm5 (ar5 w cs high (P i) z kp false c) [] [.call (rowsP N P D i k) [], .b true, .call r []] = some (.ret r, [], [CallTo g n 486 [paneP w cs high, .int (P i)] [] (rowsP N P D i k) [], decide (c < 0) = true, CallTo g n 537 (ar5 w cs high (P i) z kp false (0 - c)) [] r []]) by kernel_rfl) (List.append_nil _).symm rfl ⟨hr, decide_eq_true hc, h, trivial⟩ rfl (Nat.zero_le _)).call
theorem a_down_neg {a : Int} (hc : c < 0) (h : CallTo g n 529 (ar5 w cs high a z kp false (0 - c)) [] r []) : CallTo g (n + 1) 537 (ar5 w cs high a z kp false c) [] r [] :=
  (run_allD (fn_537 _) (show runP g n 537 nm5 (ar5 w cs high a z kp false c) [] [.b true, .call r []] = some (.ret r, [], [decide (c < 0) = true, CallTo g n 529 (ar5 w cs high a z kp false (0 - c)) [] r []]) by kernel_rfl) (List.append_nil _).symm rfl ⟨decide_eq_true hc, h, trivial⟩ rfl (Nat.zero_le _)).call
end
end

end
noncomputable section
noncomputable section
/-! scroll_up, scroll_down where they raise -/
section
variable {w : World} {g : Gl w} {n : Nat} {cs : List Int} {N : Nat} {P : Nat → Int} {D : Nat → Nat} {i k high : Nat} {z c kp a : Int} {sym : Str} {cn : Bool} {B : Heap} {l : List Env}
noncomputable def runS (x : Cx w) (s : Stmt) (st : AS) (o : List Ora) : Option (AF × AS × List Prop) := ((evs x 60).s s st o).data
theorem runS_ex {x : Cx w} {s : Stmt} {st st' : AS} {f : AF} {o : List Ora} {ps : List Prop} (h : runS x s st o = some (f, st', ps)) (hp : AllP ps) : Ex1G x s st f st' := Res.sound h hp
noncomputable def oneS (b : List Stmt) : Stmt := match b with | [s] => s | _ => .Return none default
noncomputable def raiseA (s : Stmt) : Expr × Expr := match raiseC s with | some ⟨(_, [a, b]), _⟩ => (a, b) | _ => (.Constant .none 0 default, .Constant .none 0 default)
noncomputable def retA (s : Stmt) : List Expr := match retcC s with | some ⟨(_, es), _⟩ => es | _ => []
noncomputable def stM (l : List (Str × PV)) (c : Int) : AS := ⟨setL (Str.ofString "much") (.int c) l, []⟩
noncomputable def lU (w : World) (cs : List Int) (N : Nat) (P : Nat → Int) (D : Nat → Nat) (i k high : Nat) (z kp : Int) (cn : Bool) (c : Int) : List (Str × PV) := setL (Str.ofString "rows") (rowsP N P D i k) (nm5.zip (ar5 w cs high (P i) z kp cn c))
noncomputable def lD (w : World) (cs : List Int) (high : Nat) (a z kp : Int) (cn : Bool) (c : Int) : List (Str × PV) := nm5.zip (ar5 w cs high a z kp cn c)
theorem body529 (w : World) : bodyOf (KK w) 529 = [stAt (KK w) 529 0, stAt (KK w) 529 1, stAt (KK w) 529 2, stAt (KK w) 529 3, stAt (KK w) 529 4] := by kernel_rfl
theorem body537 (w : World) : bodyOf (KK w) 537 = [stAt (KK w) 537 0, stAt (KK w) 537 1, stAt (KK w) 537 2, stAt (KK w) 537 3] := by kernel_rfl
theorem sig_block {x : Cx w} {c0 : Act w} {st : AS} {b : List Stmt} {sy : Str} (hc : x.At c0) (hb : b = [oneS b]) (hr : (raiseC (oneS b)).map (·.1) = some ((Str.ofString "LispSignal"), [(raiseA (oneS b)).1, (raiseA (oneS b)).2])) (hp : [(raiseA (oneS b)).1, (raiseA (oneS b)).2].all notStar = true)
    (hf : ∀ xp, runE x (.Name (Str.ofString "LispSignal") xp) st [] = some (.glob (.ref 38), st, [])) {st1 : AS} {i : Nat} (ha : runL x [(raiseA (oneS b)).1, (raiseA (oneS b)).2] st [] = some ([.str sy, .cell i], st1, [])) (hn : 2 ≤ x.n) : ExsR c0 B l b st sy := by
  rw [hb]
  exact ExsR_raise hr (fun xp => runE_ev (hf xp) trivial c0 hc) hp (runL_evs ha trivial c0 hc) (by rw [hc.n]; exact hn)
theorem ret_block {x : Cx w} {c0 : Act w} {l0 loc : List (Str × PV)} {b : List Stmt} {fn : Str} {f : Addr} {ps : List PV} {es : List Expr} (hc : x.At c0) (hb : b = [oneS b]) (he : retA (oneS b) = es) (hr : (retcC (oneS b)).map (·.1) = some (fn, retA (oneS b))) (hne : (retA (oneS b)).isEmpty = false) (hp : (retA (oneS b)).all notStar = true) (hk : keepIn (KK w) (.ref f) = true)
    (hf : ∀ xp, runE x (.Name fn xp) ⟨l0, []⟩ [] = some (.glob (.ref f), ⟨l0, []⟩, [])) (ha : runL x (retA (oneS b)) ⟨l0, []⟩ [] = some (ps, ⟨loc, []⟩, [])) (h : RaiseTo x.g x.n f ps sym) : ExsR c0 B l b ⟨l0, []⟩ sym := by
  rw [he] at hr hne hp ha
  cases es with
  | nil => cases hne
  | cons e es =>
    rw [hb]
    refine ExsR_ret hr (fun xp => runE_ev (hf xp) trivial c0 hc) hk hp (runL_evs ha trivial c0 hc) ?_
    rw [hc.gl, hc.n]; exact h
theorem up_raise (hc : cs.length ≤ 100) (hT : Text cs N P D) (hi : i < N) (hh : 1 ≤ high) (hcv : cvOk cn high kp c) (h0 : 0 < c) (hni : i + 1 = N) :
    RaiseTo g (n + 20) 529 (ar5 w cs high (P i) z kp cn c) (Str.ofString "end-of-buffer") := by
  have h9 := hT.nine
  refine raise_to (n := n + 19) (fn_529 _) rfl fun c0 B l hc0 => ?_
  rw [body529]
  have e0 : Ex1G (.of g (n + 19) 529) (stAt (KK w) 529 0) ⟨lD w cs high (P i) z kp cn c, []⟩ .next ⟨lU w cs N P D i (min high (N - i)) high z kp cn c, []⟩ :=
    runS_ex (o := [.call (rowsP N P D i (min high (N - i))) []]) (ps := [CallTo g (n + 19) 486 [paneP w cs high, .int (P i)] [] (rowsP N P D i (min high (N - i))) []]) (by kernel_rfl) ⟨a_rows_from (n := n + 2) hc hT hi hh, trivial⟩
  have e1 : Ex1G (.of g (n + 19) 529) (stAt (KK w) 529 1) ⟨lU w cs N P D i (min high (N - i)) high z kp cn c, []⟩ .next (stM (lU w cs N P D i (min high (N - i)) high z kp cn c) c) :=
    runS_ex (o := cvO cn c) (ps := cvQ g (n + 19) (paneP w cs high) kp cn c) (by cases cn <;> kernel_rfl) (cv_ok (n := n + 18) hcv)
  have e2 : Ex1G (.of g (n + 19) 529) (stAt (KK w) 529 2) (stM (lU w cs N P D i (min high (N - i)) high z kp cn c) c) .next (stM (lU w cs N P D i (min high (N - i)) high z kp cn c) c) :=
    runS_ex (o := [.b false]) (ps := [decide (c < 0) = false]) (by kernel_rfl) ⟨by simp; omega, trivial⟩
  have e3 : TsG (.of g (n + 19) 529) (ifT (stAt (KK w) 529 3)) (stM (lU w cs N P D i (min high (N - i)) high z kp cn c) c) true (stM (lU w cs N P D i (min high (N - i)) high z kp cn c) c) :=
    runT_ts (o := [.b true, .b true]) (ps := [decide (0 < c) = true, (0 : Int) ≤ 0 ∧ (0 : Int) < (min high (N - i) : Nat) ∧ (0 : Int) < 1000000, (!decide (i + 0 + 1 < N)) = true]) (by kernel_rfl) ⟨decide_eq_true h0, by omega, by rw [decide_eq_false (by omega)]; rfl, trivial⟩
  exact ExsR_next (e0 c0 hc0) (ExsR_next (e1 c0 hc0) (ExsR_next (e2 c0 hc0) (ExsR_if (by kernel_rfl) (e3 c0 hc0) (sig_block (i := 0) (st1 := { stM (lU w cs N P D i (min high (N - i)) high z kp cn c) c with cells := [.list []] }) hc0 (by kernel_rfl) (by kernel_rfl) (by kernel_rfl) (fun xp => by kernel_rfl) (by kernel_rfl) (by show 2 ≤ n + 19; omega)))))
theorem down_raise (hcv : cvOk cn high kp c) (h0 : 0 < c) (ha : a ≤ 1) :
    RaiseTo g (n + 4) 537 (ar5 w cs high a z kp cn c) (Str.ofString "beginning-of-buffer") := by
  refine raise_to (n := n + 3) (fn_537 _) rfl fun c0 B l hc0 => ?_
  rw [body537]
  have e1 : Ex1G (.of g (n + 3) 537) (stAt (KK w) 537 0) ⟨lD w cs high a z kp cn c, []⟩ .next (stM (lD w cs high a z kp cn c) c) :=
    runS_ex (o := cvO cn c) (ps := cvQ g (n + 3) (paneP w cs high) kp cn c) (by cases cn <;> kernel_rfl) (cv_ok (n := n + 2) hcv)
  have e2 : Ex1G (.of g (n + 3) 537) (stAt (KK w) 537 1) (stM (lD w cs high a z kp cn c) c) .next (stM (lD w cs high a z kp cn c) c) :=
    runS_ex (o := [.b false]) (ps := [decide (c < 0) = false]) (by kernel_rfl) ⟨by simp; omega, trivial⟩
  have e3 : TsG (.of g (n + 3) 537) (ifT (stAt (KK w) 537 2)) (stM (lD w cs high a z kp cn c) c) true (stM (lD w cs high a z kp cn c) c) :=
    runT_ts (o := [.b true, .call (.int 1) [], .b true]) (ps := [decide (0 < c) = true, CallTo g (n + 3) 113 [viewP cs] [] (.int 1) [], decide (a ≤ 1) = true]) (by kernel_rfl) ⟨decide_eq_true h0, a_begin (n := n + 2), decide_eq_true ha, trivial⟩
  exact ExsR_next (e1 c0 hc0) (ExsR_next (e2 c0 hc0) (ExsR_if (by kernel_rfl) (e3 c0 hc0) (sig_block (i := 0) (st1 := { stM (lD w cs high a z kp cn c) c with cells := [.list []] }) hc0 (by kernel_rfl) (by kernel_rfl) (by kernel_rfl) (fun xp => by kernel_rfl) (by kernel_rfl) (by show 2 ≤ n + 3; omega))))
theorem up_neg_raise (h0 : c < 0) (hr : CallTo g n 486 [paneP w cs high, .int (P i)] [] (rowsP N P D i k) []) (h : RaiseTo g n 537 (ar5 w cs high (P i) z kp false (0 - c)) sym) : RaiseTo g (n + 1) 529 (ar5 w cs high (P i) z kp false c) sym := by
  refine raise_to (n := n) (fn_529 _) rfl fun c0 B l hc0 => ?_
  rw [body529]
  have e0 : Ex1G (.of g n 529) (stAt (KK w) 529 0) ⟨lD w cs high (P i) z kp false c, []⟩ .next ⟨lU w cs N P D i k high z kp false c, []⟩ :=
    runS_ex (o := [.call (rowsP N P D i k) []]) (ps := [CallTo g n 486 [paneP w cs high, .int (P i)] [] (rowsP N P D i k) []]) (by kernel_rfl) ⟨hr, trivial⟩
  have e1 : Ex1G (.of g n 529) (stAt (KK w) 529 1) ⟨lU w cs N P D i k high z kp false c, []⟩ .next (stM (lU w cs N P D i k high z kp false c) c) := runS_ex (o := []) (ps := []) (by kernel_rfl) trivial
  have e3 : TsG (.of g n 529) (ifT (stAt (KK w) 529 2)) (stM (lU w cs N P D i k high z kp false c) c) true (stM (lU w cs N P D i k high z kp false c) c) :=
    runT_ts (o := [.b true]) (ps := [decide (c < 0) = true]) (by kernel_rfl) ⟨decide_eq_true h0, trivial⟩
  exact ExsR_next (e0 c0 hc0) (ExsR_next (e1 c0 hc0) (ExsR_if (by kernel_rfl) (e3 c0 hc0) (ret_block (fn := (Str.ofString "scroll_down")) (f := 537) (ps := ar5 w cs high (P i) z kp false (0 - c)) (loc := (stM (lU w cs N P D i k high z kp false c) c).loc) hc0 (by kernel_rfl) rfl (by kernel_rfl) (by kernel_rfl) (by kernel_rfl) (by kernel_rfl) (fun xp => by kernel_rfl) (by kernel_rfl) h)))
theorem down_neg_raise (h0 : c < 0) (h : RaiseTo g n 529 (ar5 w cs high a z kp false (0 - c)) sym) : RaiseTo g (n + 1) 537 (ar5 w cs high a z kp false c) sym := by
  refine raise_to (n := n) (fn_537 _) rfl fun c0 B l hc0 => ?_
  rw [body537]
  have e1 : Ex1G (.of g n 537) (stAt (KK w) 537 0) ⟨lD w cs high a z kp false c, []⟩ .next (stM (lD w cs high a z kp false c) c) := runS_ex (o := []) (ps := []) (by kernel_rfl) trivial
  have e3 : TsG (.of g n 537) (ifT (stAt (KK w) 537 1)) (stM (lD w cs high a z kp false c) c) true (stM (lD w cs high a z kp false c) c) :=
    runT_ts (o := [.b true]) (ps := [decide (c < 0) = true]) (by kernel_rfl) ⟨decide_eq_true h0, trivial⟩
  exact ExsR_next (e1 c0 hc0) (ExsR_if (by kernel_rfl) (e3 c0 hc0) (ret_block (fn := (Str.ofString "scroll_up")) (f := 529) (ps := ar5 w cs high a z kp false (0 - c)) (loc := (stM (lD w cs high a z kp false c) c).loc) hc0 (by kernel_rfl) rfl (by kernel_rfl) (by kernel_rfl) (by kernel_rfl) (by kernel_rfl) (fun xp => by kernel_rfl) (by kernel_rfl) h))
end
end

end
noncomputable section
noncomputable section
/-! _law_told -/
section
variable {w : World} {g : Gl w} {n : Nat} {cs : List Int} {high : Nat} {z c kp a : Int} {sym : Str} {cn : Bool} {r : PV}
theorem fn_685 (P : Params) : FnAt (hd.heap_39 P) 685 [(Str.ofString "scroll"), (Str.ofString "pane"), (Str.ofString "begin"), (Str.ofString "place"), (Str.ofString "count"), (Str.ofString "kept")] := ⟨by kernel_rfl, by kernel_rfl, by kernel_rfl, by decide +kernel, by rintro (_ | ⟨v0, _ | ⟨v1, _ | ⟨v2, _ | ⟨v3, _ | ⟨v4, _ | ⟨v5, _ | ⟨v6, vs⟩⟩⟩⟩⟩⟩⟩) h <;> first | (simp at h; done) | kernel_rfl⟩
noncomputable def nm6 : List Str := [(Str.ofString "scroll"), (Str.ofString "pane"), (Str.ofString "begin"), (Str.ofString "place"), (Str.ofString "count"), (Str.ofString "kept")]
noncomputable def scF (up : Bool) : Addr := match up with | true => 529 | false => 537
noncomputable def ar6 (w : World) (cs : List Int) (high : Nat) (up : Bool) (a z kp : Int) (cn : Bool) (c : Int) : List PV := .glob (.ref (scF up)) :: ar5 w cs high a z kp cn c
theorem a_told {up : Bool} (h : CallTo g n (scF up) (ar5 w cs high a z kp cn c) [] r []) : CallTo g (n + 1) 685 (ar6 w cs high up a z kp cn c) [] r [] :=
  (run_all (fn_685 _) (show runP g n 685 nm6 (ar6 w cs high up a z kp cn c) [] [.call r []] = some (.ret r, [], [CallTo g n (scF up) (ar5 w cs high a z kp cn c) [] r []]) by cases cn <;> cases up <;> kernel_rfl) rfl ⟨h, trivial⟩ rfl (Nat.zero_le _)).call
/-- try: one statement; except LispSignal as error: return error.symbol -/
noncomputable def tryC (s : Stmt) : Option {y : Stmt × Str × Str × Str × Str // ∃ np ep ap rp hp pos, s = .Try [y.1] [.ExceptHandler (some (.Name y.2.1 np)) (some y.2.2.1) [.Return (some (.Attribute (.Name y.2.2.2.1 ep) y.2.2.2.2 ap)) rp] hp] [] [] pos} := match s with
  | .Try [b] [.ExceptHandler (some (.Name x np)) (some e) [.Return (some (.Attribute (.Name e2 ep) at_ ap)) rp] hp] [] [] pos => some ⟨(b, x, e, e2, at_), np, ep, ap, rp, hp, pos, rfl⟩
  | _ => none
noncomputable def tryB (s : Stmt) : Stmt := match s with | .Try [b] _ _ _ _ => b | _ => .Return none default
theorem ret_pass {c : Act w} {B : Heap} {l : List Env} {st : AS} {s : Stmt} {ss : List Stmt} {x : Str} {es : List Expr} {f : Addr} {ps : List PV} {loc : List (Str × PV)} (hs : (retcC s).map (·.1) = some (x, es)) (hne : es.isEmpty = false) (hf : ∀ xp, Ev c (.Name x xp) st (.glob (.ref f)) st) (hk : keepIn (KK w) (.ref f) = true) (hst : es.all notStar = true)
    (ha : EvL c es st ps ⟨loc, []⟩) (hc : RaiseTo c.toGl c.n f ps sym) (hB : ∀ h m, Fr c.H c.L h m → Below c.A B l h) {W : Wd} {h : Heap} {tk : Nat} (R : Rep c W st h) (Q : Flow → Shared → Prop) (E : Value → Shared → Prop) (k : ∀ e h' tk', PassX c B l sym e h' → E (.ref e) (c.sh h' tk')) : wpAny c.M c.A (execs (s :: ss) c.env) Q E (c.sh h tk) := by
  cases q : retcC s with
  | none => rw [q] at hs; cases hs
  | some y =>
    obtain ⟨y, xp, cp, pos, rfl⟩ := y
    rw [q] at hs
    have hs : some y = some (x, es) := hs
    cases hs
    cases es with
    | nil => cases hne
    | cons e es =>
      refine wpAny_execs_cons (wpAny_Return_some (Call_ (wp_off (hf xp W h tk R _ fun W1 v h1 tk1 l1 R1 i1 => ?_)) rfl))
      cases Is.glob_eq i1
      refine EvL.plain hk hst R1 ha fun W2 vs h2 tk2 l2 ⟨m, cs, R2⟩ i2 => ?_
      obtain rfl : cs = [] := List.eq_nil_of_length_eq_zero R2.len.symm
      exact hc c.A h2 tk2 c.gs c.dr c.os (W2.fact c.F) vs B l (R2.start i2) (hB h2 m R2.fr) _ _ fun e h' tk' r u => k e h' tk' ⟨h2, m, R2.fr, u, r⟩
/-- a call that catches: what it changes of the one frame below -/
noncomputable def ToldX (g : Gl w) (n : Nat) (ps : List PV) (sym : Str) : Prop :=
  ∀ A h tk gs dr os F vs base outer Lw ow, Start g n A h F [] [] ps vs → Below A base outer h → (KK w).In base → Top g.p g.loose g.mean g.mg g.mb base → outer.filterMap (·.frame) = [Lw] → h.get? Lw = some ow → (∀ vs, ow.data ≠ .fields vs) →
   ∀ Q : Value → Shared → Prop, (∀ t h' tk' sl, (∀ b o, b ≠ Lw → h.get? b = some o → h'.get? b = some o) → h'.get? Lw = some { ow with slots := sl } → Q (.str sym t) ⟨h', gs, dr, tk', os⟩) → wpAny (model g.prog w) A (call (.ref 685) vs) Q never ⟨h, gs, dr, tk, os⟩
theorem told_x {up : Bool} (hx : RaiseTo g n (scF up) (ar5 w cs high a z kp cn c) sym) : ToldX g (n + 1) (ar6 w cs high up a z kp cn c) sym := by
  intro A h0 tk gs dr os F vs base outer Lw ow S B Xb Tb hfr hw hwf QQ kQ
  have hf := fn_685 w.params
  obtain ⟨name, qual, params, body, scope, dV, kV, doc, pm, an, cdv, ct, oc, od, osl, ho, hcd, hco, hgen, hkd, hfd⟩ := fn_of hf.ok
  obtain ⟨hF, C, ⟨⟨base0, outer0, B0⟩, X, T, hdp, hu, hh⟩, ia⟩ := S
  have hF : ∀ a o, F a o → h0.get? a = some o := hF
  have X : (hd.heap_39 w.params).In h0 := X
  have T : Top g.p g.loose g.mean g.mg g.mb h0 := T
  have hl0 : recursionLimit = 1000 := rfl
  have hsc : scopeOf (KK w) 685 = scope := by unfold scopeOf; rw [hfd]
  have hbd : bodyOf (KK w) 685 = body := by unfold bodyOf; rw [hfd]
  have hlv : 6 = vs.length := ia.length
  have hzk : (nm6.zip vs).map (·.1) = nm6 := List.map_fst_zip (Nat.le_of_eq hlv)
  have hbt : BindsTo ⟨h0, gs, dr, tk, os⟩ (fnOf name qual params body scope dV kV doc pm an cdv ct) ⟨vs, []⟩ (nm6.zip vs) := BindsTo.of_eq (by rw [← hfd]; exact hf.bind vs hlv.symm)
  have hcell := hf.cell
  have hl := hf.loc
  rw [hsc] at hcell hl
  have hwm : Lw ∈ outer.filterMap (·.frame) := by rw [hfr]; exact .head _
  have hwb : base.get? Lw = none := (B.frames.mem hwm).1
  have keepB : ∀ b o, base.get? b = some o → (h0.hide Lw).get? b = some o := fun b o e => (Heap.hide_ne h0 (a := Lw) (b := b) fun q => by rw [q, hwb] at e; cases e).trans (B.stays b o e)
  have upB : ∀ b o, (h0.hide Lw).get? b = some o → h0.get? b = some o := fun b o q => Heap.of_hide q
  have B' : Below A (h0.hide Lw) outer h0 := ⟨B.stack, upB, frames_any B.frames fun env hm b hb => by
    have : b ∈ outer.filterMap (·.frame) := List.mem_filterMap.mpr ⟨env, hm, hb⟩
    rw [hfr] at this
    rw [List.mem_singleton.mp this]; exact Heap.hide_self _ _⟩
  refine wpAny_call (codeAny_call_def (fd := fnOf name qual params body scope dV kV doc pm an cdv ct) (body := body) (binds := nm6.zip vs) (by omega) (X _ _ ho) rfl T.nolimit (codeRec_of X hcd) rfl hbt
    (fun x hx => of_decide_eq_true (List.all_eq_true.mp hcell x hx)) (fun y hy => ?_) (fun h₁ hns hk₁ => ?_) hco hgen hkd)
  · have := List.mem_map_of_mem (f := (·.1)) hy
    rw [hzk] at this
    exact of_decide_eq_true (List.all_eq_true.mp hl _ this)
  · let ac : Act w := { g with env := envOf qual scope h0.objs.size 685 cdv, A := A.deeper (envOf qual scope h0.objs.size 685 cdv), H := h0, L := h0.objs.size, n := n, gs, dr, os, F, hF, X, T,
                               sur := fun h m cs' F' N' => by
                                 obtain ⟨FG, BG, st', _⟩ := groundX (R := fun _ _ => True) (s := { heap := h }) (A := A.deeper (envOf qual scope h0.objs.size 685 cdv)) (env := envOf qual scope h0.objs.size 685 cdv) B F' N' (by rw [Around.frames_deeper B.stack]) rfl hkd
                                 exact ⟨⟨base, envOf qual scope h0.objs.size 685 cdv :: outer, BG⟩, X.keeps st', T.keeps st', by show A.depth + 1 + n ≤ 400; omega, by show A.units + 3 + 10 * n ≤ 1000; omega, hh⟩,
                               units := by show A.units + 3 < 9000; omega, hand := hh, kind := hkd, glob := rfl, blt := rfl }
    have F0 : Fr h0 h0.objs.size h₁ (fun y => (nm6.zip vs).reverse.lookup y) := ⟨hns, hk₁, Nat.le_refl _⟩
    have R0 : RepX ac ⟨[], []⟩ ⟨nm6.zip (ar6 w cs high up a z kp cn c), []⟩ h₁ (fun y => (nm6.zip vs).reverse.lookup y) [] := by
      refine ⟨F0, fun p hp => (nomatch hp), rfl, List.nodup_nil, fun p hp => (nomatch hp), fun x p e => ?_, rfl, fun i mo e => (nil_get e).elim⟩
      obtain ⟨v, hv, iv⟩ := lk_zip ia e
      exact .frame (iv.mono (fun a o q => .inl q) fun _ _ q => q) (lookup_rev (by rw [hzk]; exact hf.nodup) hv)
    have hc : (Cx.of g n 685).At ac := ⟨rfl, rfl, hsc.symm, fun _ => rfl, fun e => (nomatch e)⟩
    have one : body = [stAt (KK w) 685 0] := hbd.symm.trans (by kernel_rfl)
    have ht : (tryC (stAt (KK w) 685 0)).map (·.1) = some (tryB (stAt (KK w) 685 0), (Str.ofString "LispSignal"), (Str.ofString "error"), (Str.ofString "error"), (Str.ofString "symbol")) := by kernel_rfl
    have k1 : scope.names.lookup (Str.ofString "error") = some .local := by rw [← hsc]; kernel_rfl
    have k2 : scope.names.lookup (Str.ofString "LispSignal") = some .globalImplicit := by rw [← hsc]; kernel_rfl
    have key := fun (Q : Flow → Shared → Prop) (E : Value → Shared → Prop) => ret_pass (c := ac) (B := h0.hide Lw) (l := envOf qual scope h0.objs.size 685 cdv :: outer) (st := ⟨nm6.zip (ar6 w cs high up a z kp cn c), []⟩) (s := tryB (stAt (KK w) 685 0)) (ss := []) (es := retA (tryB (stAt (KK w) 685 0))) (x := (Str.ofString "scroll")) (f := scF up) (ps := ar5 w cs high a z kp cn c) (loc := nm6.zip (ar6 w cs high up a z kp cn c)) (sym := sym)
      (by kernel_rfl) (by kernel_rfl) (fun xp => runE_ev (x := .of g n 685) (o := []) (ps := []) (by kernel_rfl) trivial ac hc) (by cases up <;> kernel_rfl) (by kernel_rfl) (runL_evs (x := .of g n 685) (o := []) (ps := []) (by cases cn <;> kernel_rfl) trivial ac hc) hx (fun h m F => pushX B' F rfl hkd) (W := ⟨[], []⟩) (h := h₁) (tk := tk + (nm6.zip vs).length) ⟨_, _, R0⟩ Q E
    rw [one]
    generalize tryB (stAt (KK w) 685 0) = b at ht key
    cases q : tryC (stAt (KK w) 685 0) with
    | none => rw [q] at ht; cases ht
    | some y =>
      obtain ⟨y, np, ep, ap, rp, hp, pos, es⟩ := y
      rw [q] at ht
      obtain rfl : y = (b, (Str.ofString "LispSignal"), (Str.ofString "error"), (Str.ofString "error"), (Str.ofString "symbol")) := Option.some.inj ht
      dsimp only at es
      rw [es]
      have hdb1 : ((Str.ofString "LispSignal") == ("__debug__" : Str)) = false := by decide +kernel
      have hdb2 : ((Str.ofString "error") == ("__debug__" : Str)) = false := by decide +kernel
      refine wpAny_execs_cons (wpAny_Try_except (key _ _ fun e h' tk' ⟨h2, m, F2, u, r⟩ => ?_))
      have Fb : Fr (h0.hide Lw) h0.objs.size h2 m := ⟨F2.ns, fun b o q => F2.keep _ _ (upB b o q), by rw [Heap.hide_size]; exact Nat.le_refl _⟩
      obtain ⟨sl0, hw'⟩ := u _ _ (F2.keep _ _ hw) hwf
      have hwL : Lw ≠ h0.objs.size := Nat.ne_of_lt (Heap.lt_size hw)
      refine caught_sig (x := Str.ofString "LispSignal") (n := (Str.ofString "error")) (s' := ac.sh h' tk') B' Fb u r (Xb.keeps keepB) (Tb.keeps keepB) (by kernel_rfl) hw' hwf (Heap.hide_self _ _) hwL (fun h3 news tk2 sl F3 N3 SA hm => ?_) hkd k1 k2 hdb1
      obtain ⟨oe, us, dx, od, mA, t1, he, hdx, hcl, hdi, hda, hNs, hsy⟩ := SA
      obtain ⟨mN, hN37, _, _, hsyN, _, hga, hgg⟩ := ns37 (Xb.keeps keepB)
      refine wpAny_execs_cons (wpAny_Return_some (Attribute_name (wpAny_Name (wpAny_loadName_local hkd k1 F3.ns (if_pos rfl) ?_) hdb2)))
      refine field_get (expr := true) (lk38 ((Xb.keeps keepB).keeps F3.keep)) (hN37.keeps F3.keep) hsyN hga hgg lk_symbol (N3 _ he).1 hcl hda hdi (hNs.ns (N3 _ hdx).1) hsy PySem.F.attrBase_Exception.ga rfl ?_
      refine wpAny_nameGoes_keeps k1 F3.ns (by show (scope.kind == .class || (scope.kind == .module && _)) = false; rw [hkd]; rfl) fun h4 v hn4 hs4 => ?_
      refine kQ _ _ _ sl (fun b o hb e => ?_) ?_
      · exact (hs4.2 b (Nat.ne_of_lt (Heap.lt_size e))).trans (F3.keep b o ((Heap.hide_ne h0 (a := Lw) (b := b) hb).trans e))
      · exact (hs4.2 Lw hwL).trans (N3 _ hm).1
end
end

end
noncomputable section
noncomputable section
/-! the call that catches, from the one frame of the law -/
section
variable {w : World} {x : Cx w} {c : Act w} {st st1 st2 : AS} {sym : Str}
theorem Ev_told {nm : Str} {xp : Pos} {es : List Expr} {pos : Pos} {ps : List PV} (ht : c.A.frames = some [c.env] ∧ c.env.frame = some c.L) (hf : Ev c (.Name nm xp) st (.glob (.ref 685)) st1) (ha : EvA c es st1 ps st2) (nc : NCL ps) (hc : ToldX c.toGl c.n ps sym) : Ev c (.Call (.Name nm xp) es [] pos) st (.str sym) st2 := fun W g tk R Q k =>
  Call_ (hf W g tk R _ fun W1 v h1 tk1 l1 R1 i1 => by
    cases Is.glob_eq i1
    refine callWith_any (first := []) (by kernel_rfl) R1 ha fun W2 vs h2 tk2 l2 ⟨m, cs, R2⟩ i2 => ?_
    obtain ⟨o, es', ep, ho, hd, _⟩ := id R2.fr.ns
    have hn : c.H.get? c.L = none := Heap.get?_none_of_le R2.fr.above
    have B : Below c.A c.H [c.env] h2 := ⟨ht.1, R2.fr.keep, ⟨(fun q => by rw [c.kind] at q; cases q), ⟨c.L, o, ht.2, hn, ho, fun vs q => by rw [hd] at q; cases q⟩, trivial⟩⟩
    have S : Start c.toGl c.n c.A h2 (W2.fact c.F) [] [] ps vs := ⟨fun a o q => R2.at q, ⟨fun p hp => (nomatch hp), List.nodup_nil, rfl, fun i mo e => (nil_get e).elim⟩, (c.sur h2 m cs R2.fr fun p hp => R2.news p (List.mem_append_left _ hp)).mono fun b o e => of_hideAll _ e, nc.is i2⟩
    refine hc c.A h2 tk2 c.gs c.dr c.os (W2.fact c.F) vs c.H [c.env] c.L o S B c.X c.T (by rw [List.filterMap_cons, ht.2]; rfl) ho (fun vs q => by rw [hd] at q; cases q) Q fun t h' tk' sl keep hL => ?_
    have F' : Fr c.H c.L h' m := ⟨?_, fun b o e => keep b o (fun q => by rw [q, hn] at e; cases e) (R2.fr.keep b o e), R2.fr.above⟩
    · exact k W2 _ h' tk' (l1.trans l2) ⟨m, cs, R2.same F' fun p hp => ⟨keep _ _ (R2.news p hp).2.1 (R2.news p hp).1, (R2.news p hp).2⟩⟩ .str
    · obtain ⟨o1, es1, ep1, ho1, hd1, hk1, hf1⟩ := R2.fr.ns
      obtain rfl : o1 = o := Option.some.inj (ho1.symm.trans ho)
      exact ⟨_, es1, ep1, hL, hd1, hk1, hf1⟩) rfl
noncomputable def callC (e : Expr) : Option {y : Str × List Expr // ∃ xp pos, e = .Call (.Name y.1 xp) y.2 [] pos} := match e with
  | .Call (.Name x xp) es [] pos => some ⟨(x, es), xp, pos, rfl⟩
  | _ => none
noncomputable def callA (e : Expr) : List Expr := match e with | .Call _ es _ _ => es | _ => []
theorem EvG_told {e : Expr} {nm : Str} {ps : List PV} (ht : x.top = true) (he : (callC e).map (·.1) = some (nm, callA e)) (hs : (!(callA e).isEmpty && (callA e).all notStar) = true) (hf : ∀ xp, EvG x (.Name nm xp) st (.glob (.ref 685)) st) (ha : EvLG x (callA e) st ps st1) (nc : NCL ps) (hc : ToldX x.g x.n ps sym) : EvG x e st (.str sym) st1 := fun c hx => by
  generalize callA e = es at he ha hs
  cases q : callC e with
  | none => rw [q] at he; cases he
  | some y =>
    obtain ⟨y, xp, pos, rfl⟩ := y
    rw [q] at he
    have he : some y = some (nm, es) := he
    cases he
    rw [Bool.and_eq_true] at hs
    refine Ev_told (hx.top ht) (hf xp c hx) (.inr ⟨fun q => ?_, hs.2, ha c hx⟩) nc (by rw [hx.gl, hx.n]; exact hc)
    have hs1 := hs.1
    rw [show es = [] from q] at hs1; cases hs1
end
end

end
noncomputable section
noncomputable section
/-! for over a range; comprehensions whose list is frozen at once -/
section
variable {w : World} {c : Act w} {x : Cx w} {st st1 st2 : AS} {p r : PV}
theorem letGo_name {prog : Program} {A : Around} {E : Value → Shared → Prop} {nm : Str} {xp : Pos} {I : Addr} {v : Value} {Q' : Unit → Shared → Prop} {s' : Shared} (h : Q' () s') : wpAny (model prog w) A (letOwnedTupleGo (.Name nm xp) (.ref I) v) Q' E s' := by
  unfold letOwnedTupleGo
  first
    | exact wpAny_pure h
    | (cases v <;> exact wpAny_pure h)
theorem Ex1_range {nm : Str} {xp pos : Pos} {iter : Expr} {body : List Stmt} {z : Int} {n : Nat} {S : Nat → AS} {stop : Nat} {f : AF} {st' : AS} (hi : Ev c iter st (rangeP z) st1) (hz : z.toNat = n) (hn : n ≤ 1000) (h0 : -1000 ≤ z)
    (hx : ∀ i q os, St c nm q { S i with cells := (S i).cells ++ os } { S i with loc := setL nm q (S i).loc, cells := (S i).cells ++ os }) (hs : ∀ y, foldedSetIterable iter c.env y = pure y)
    (hS : ∀ W h m cs, RepX c W st1 h m cs → RepX c W (S 0) h m cs) (R : ForR c (fun q s => { s with loc := setL nm q s.loc }) body 1 (.sq n fun i => .int (i : Nat)) (fun _ q => q) S stop f st') : Ex1 c (.For (.Name nm xp) iter body [] pos) st f st' := by
  intro W g tk R0 Q kQ
  refine wpAny_For (hi W g tk R0 _ fun W1 v h tk1 l1 ⟨m, cs, R1⟩ iv => ?_) hs
  have iv : Is w (W1.fact c.F) W1.ms (rangeP z) v := iv
  unfold rangeP at iv
  cases iv with
  | @obj _ a hR =>
    obtain ⟨t, u, v, hr⟩ := hR h fun b o q => R1.at q
    have X := hS W1 h m cs R1
    refine wpAny_pyIter_range hr (small_one (by decide) (by decide) (by omega) (by omega)) (gfor (W0 := W1) (os0 := [(h.objs.size, _)]) (wr := [h.objs.size]) (fp := [h.objs.size]) ⟨KTurns.ofWalks (LCg.range_walks (by exact c.hand) 0 n) fun i v s Q E st q => letGo_name q, fun i h st => ?_, fun b hb => .inl hb, fun i v W2 os h2 tk2 hlt hle hP l2 hos R2 => ?_⟩ R
      (by rw [X.len, ← X.ms, List.length_map]) rfl (push_more X rfl) (by
        show IsRangeIter _ _ _ _ _
        rw [rangeSize_nat, Int.sub_zero, hz]; simpa using Heap.get?_push_size _ rfl) (kQ.up l1) fun _ _ h => h)
    · exact ⟨[(_, _)], rfl, fun p hp => by rw [List.mem_singleton.mp hp]; exact st⟩
    · obtain ⟨t', rfl⟩ := hP
      refine ⟨_, Its.at_sq hlt, fun Q kQ => assign_Name (hx i _ os W2 h2 tk2 _ R2 (by rw [Int.zero_add]; exact .int) _ fun h' tk' R' => kQ W2 () h' tk' .rfl R' trivial)⟩
theorem Ex1G_range {s : Stmt} {z : Int} {n : Nat} {nm : Str} {S : Nat → AS} {stop : Nat} {f : AF} {st' : AS} (hs : forX s = some nm) (hi : EvG x (forIt s) st (rangeP z) st1) (hz : z.toNat = n) (hn : n ≤ 1000) (h0 : -1000 ≤ z) (hx : (x.fn && isLocal x.sc nm) = true) (hS : ∀ c : Act w, ∀ W h m cs, RepX c W st1 h m cs → RepX c W (S 0) h m cs)
    (R : ∀ c, x.At c → ForR c (fun q s => { s with loc := setL nm q s.loc }) (whB s) 1 (.sq n fun i => .int (i : Nat)) (fun _ q => q) S stop f st') : Ex1G x s st f st' := by
  rw [Bool.and_eq_true] at hx
  obtain ⟨hl, xp, pos, e⟩ := for_of hs
  rw [e]
  exact fun c hc => Ex1_range (hi c hc) hz hn h0 (fun i q os => St_local (hc.fn hx.1) (hc.sc ▸ hx.2)) (fold_ok hl) (hS c) (R c hc)
theorem Ev.freeze {e : Expr} {k : Nat} (h1 : Ev c e st p st1) (Z : Fz w st1 k st2) (hd : Drop w st1.cells k p r) (hk : st.cells.length ≤ k) : Ev c e st r st2 := fun W h tk R Q kk => h1 W h tk R _ fun W1 v h1 tk1 l1 ⟨m, cs, R1⟩ i1 =>
  kk ⟨cs.drop k ++ W1.fr, W1.ms.take k⟩ v h1 tk1 ⟨fun p q => List.mem_append_right _ (l1.fr p q), fun i a q => by
    obtain ⟨m, cs, R⟩ := R
    have hi := (List.getElem?_eq_some_iff.mp q).1
    rw [← R.ms, List.length_map, ← R.len] at hi
    show (W1.ms.take k)[i]? = _
    rw [List.getElem?_take_of_lt (Nat.lt_of_lt_of_le hi hk)]
    exact l1.ms i a q⟩ ⟨m, cs.take k, R1.freeze Z⟩ (by
      have := hd _ _ cs (R1.cut k) v (by rw [R1.ms]; exact i1)
      show Is w _ _ r v
      rwa [List.map_take, R1.ms] at this)
end
end

end
noncomputable section
noncomputable section
/-! comprehensions that give numbers, one a turn: the list is frozen -/
section
variable {w : World} {c : Act w} {x : Cx w} {k K : Nat}
theorem NB.drop {cells : List MO} {p : PV} (h : NB k p) : Drop w cells k p p := fun F F' cs H v i =>
  NB.is (fun j hj => by rw [List.map_take, List.getElem?_take_of_lt hj]) h v (i.mono H.hF fun _ _ q => q)
theorem NBM.drop {cells : List MO} {p : MO} (h : NBM k p) : DropM w cells k p p := fun F F' cs H v i =>
  NBM.is (fun j hj => by rw [List.map_take, List.getElem?_take_of_lt hj]) h (i.mono H.hF fun _ _ q => q)
theorem Fz.keep {l : List (Str × PV)} {C more : List MO} (hl : ∀ e ∈ l, NB k e.2) (hC : ∀ mo ∈ C, NBM k mo) (hk : C.length = k) : Fz w ⟨l, C ++ more⟩ k ⟨l, C⟩ where
  le := by show k ≤ (C ++ more).length; rw [List.length_append, hk]; exact Nat.le_add_right _ _
  len := hk
  loc := fun y r e => ⟨r, e, by
    have nb := hl _ (lk_mem e)
    have nb : NB k r := nb
    by_cases hv : ∃ i, r = .var i ∨ r = .nsv i
    · obtain ⟨i, h⟩ := hv
      refine .inl ⟨i, h, rfl, ?_⟩
      rcases h with rfl | rfl
      · cases nb with | var h => exact h
      · cases nb with | nsv h => exact h
    · exact .inr ⟨fun i => ⟨fun q => hv ⟨i, .inl q⟩, fun q => hv ⟨i, .inr q⟩⟩, nb.drop⟩⟩
  cells := fun i r e => ⟨r, by
    have hi := (List.getElem?_eq_some_iff.mp e).1
    exact (List.getElem?_append_left hi).trans e, (hC _ (List.mem_of_getElem? e)).drop⟩
theorem drop_ints {cells : List MO} {m : Nat} {g : Nat → Int} (e : cells[K]? = some (.seq m fun j => .int (g j))) : Drop w cells K (.cell K) (intsP m g) := by
  have h := Drop.fz (w := w) (cells := cells) (k := K) (n := 9) (.cell K)
  have q : fz 9 cells K (.cell K) = intsP m g := by
    unfold fz
    dsimp only
    rw [show Nat.blt K K = false from by
      cases h : Nat.blt K K with
      | false => rfl
      | true => exact absurd (Nat.le_of_ble_eq_true h) (Nat.not_succ_le_self K), e]
    rfl
  rw [q] at h; exact h
theorem EvG_ints {e : Expr} {nm : Str} {l : List (Str × PV)} {p : PV} {t : Its} {Cs : Nat → List MO} {g : Nat → Int} {cells : List MO} (he : compX e = some nm) (hok : compOk (compSc e) nm l = true) (hi : EvG x (compIt e) ⟨l, cells⟩ p ⟨l, Cs 0⟩) (hsrc : ∀ c : Act w, Src1 c p t) (hif : compIfs e = []) (hcl : cells.length ≤ K)
    (len : ∀ i, i ≤ t.len → (Cs i).length = K) (nbC : ∀ i, i ≤ t.len → ∀ mo ∈ Cs i, NBM K mo) (nbl : ∀ e ∈ l, NB K e.2) (nbq : ∀ i q, t.at? i = some q → NB K q)
    (step : ∀ i q o, i < t.len → t.at? i = some q → ∃ more, EvG (x.comp e) (compElt e) ⟨compLoc nm (K + 1) (compSc e) l, Cs i ++ [.raw o, .ns nm q, .seq i fun j => .int (g j)]⟩ (.int (g i)) ⟨compLoc nm (K + 1) (compSc e) l, (Cs (i + 1) ++ [.raw o, .ns nm q, .seq i fun j => .int (g j)]) ++ more⟩) (hn : t.len ≤ 1000) :
    EvG x e ⟨l, cells⟩ (intsP t.len g) ⟨l, Cs t.len⟩ := fun c hc =>
  Ev.freeze (EvG_comp (acc := fun i => .seq i fun j => .int (g j)) he hok hi hsrc ⟨len, fun i h => ⟨nbC i h, .seq fun _ => .int⟩, nbl, nbq, fun i q o h e => by
    obtain ⟨more, hm⟩ := step i q o h e
    exact .inl ⟨_, _, more, by rw [hif]; exact ⟨rfl, rfl⟩, hm, .int, Snoc.seq ⟨rfl, by omega⟩⟩⟩ hn (fun F ms o im => nil_seq F ms o im) c hc) (Fz.keep (more := [.seq t.len fun j => .int (g j)]) nbl (nbC _ (Nat.le_refl _)) (len _ (Nat.le_refl _)))
    (drop_ints (by rw [← len _ (Nat.le_refl _), List.getElem?_append_right (Nat.le_refl _), Nat.sub_self]; rfl)) hcl
end
end

end
noncomputable section
noncomputable section
/-! tuples, strings, lists of numbers that are equal -/
section
variable {w : World} {c : Act w} {st : AS} {p q : PV}
theorem in1_room : c.A.units < cLine := Nat.lt_of_lt_of_le c.units (by decide)
theorem Op_ne_str {s : Str} : Opd c st (.str s) (.str s) (compareOp .NotEq) (.bool false) st := fun W h tk a b R i j Q kQ => by
  obtain ⟨t, rfl⟩ : ∃ t, a = .str s t := by cases i; exact ⟨_, rfl⟩
  obtain ⟨u, rfl⟩ : ∃ t, b = .str s t := by cases j; exact ⟨_, rfl⟩
  refine ne_str (kQ W _ h tk .rfl R ?_)
  rw [show (s != s) = false by simp]; exact .bool
theorem rc_of {A : Around} {s : Shared} {a b : Value} {k : Bool} {E Q : Value → Shared → Prop} (h : SeqAt.RcAt A s a b k) (hq : Q (.bool k) s) : wpAny c.M A (compareOp .Eq a b) Q E s := h c.prog w E Q hq
theorem rc_ne {A : Around} {s : Shared} {a b : Value} {k : Bool} {E Q : Value → Shared → Prop} (h : SeqAt.RcNeAt A s a b k) (hq : Q (.bool k) s) : wpAny c.M A (compareOp .NotEq a b) Q E s := h c.prog w E Q hq
theorem eq_at {A : Around} {s : Shared} {z : Int} {t u : Tok} : SeqAt.EqAt A s (.int z t) (.int z u) true := by
  have h := SeqAt.EqAt.int_int (A := A) (s := s) z t z u
  rw [beq_self_eq_true] at h; exact h
theorem Op_ne_tup {A B : Int} : Opd c st (.tup [.int A, .int B]) (.tup [.int A, .int B]) (compareOp .NotEq) (.bool false) st := fun W h tk a b ⟨m, cs, R⟩ i j Q kQ => by
  obtain ⟨a, n, vs, rfl, hF, il⟩ := i.tup_inv
  obtain ⟨b, n', us, rfl, hG, jl⟩ := j.tup_inv
  obtain ⟨v1, vs, rfl, i1, il⟩ := il.cons_inv
  obtain ⟨v2, rfl, i2⟩ := il.one_inv
  obtain ⟨u1, us, rfl, j1, jl⟩ := jl.cons_inv
  obtain ⟨u2, rfl, j2⟩ := jl.one_inv
  obtain ⟨t1, rfl⟩ := i1.int_inv
  obtain ⟨t2, rfl⟩ := i2.int_inv
  obtain ⟨t3, rfl⟩ := j1.int_inv
  obtain ⟨t4, rfl⟩ := j2.int_inv
  refine rc_ne (SeqAt.RcNeAt.tuples (s := c.sh h tk) (e := fun _ => true) (isT (R.at hF)) (isT (R.at hG)) in1_room fun k h1 h2 => ?_) (kQ W _ h tk .rfl ⟨m, cs, R⟩ ?_)
  · rcases k with _ | _ | k
    · exact eq_at
    · exact eq_at
    · exact absurd h1 (by simp)
  · exact .bool
theorem Op_eq_ints {n : Nat} {f : Nat → Int} {s t : Its} (hp : itsOf st p = some s) (hq : itsOf st q = some t) (hs : s.len = n) (ht : t.len = n) (es : ∀ j u, s.at? j = some u → u = .int (f j)) (et : ∀ j u, t.at? j = some u → u = .int (f j)) : Opd c st p q (compareOp .Eq) (.bool true) st := fun W h tk a b ⟨m, cs, R⟩ i j Q kQ => by
  obtain ⟨a, n1, vs, rfl, ha, hl, hv⟩ := its_at R hp i
  obtain ⟨b, n2, us, rfl, hb, hl', hv'⟩ := its_at R hq j
  refine rc_of (SeqAt.RcAt.lists (s := c.sh h tk) (e := fun _ => true) (isL ha) (isL hb) (by rw [List.size_toArray, List.size_toArray, hl, hl', hs, ht]) in1_room fun k h1 h2 => ?_) (kQ W _ h tk .rfl ⟨m, cs, R⟩ ?_)
  · obtain ⟨u, e1, i1⟩ := ItsAre.at' (i := k) (v := vs.toArray[k]) ⟨hl, hv⟩ (by simp)
    obtain ⟨u', e2, i2⟩ := ItsAre.at' (i := k) (v := us.toArray[k]) ⟨hl', hv'⟩ (by simp)
    rw [es k u e1] at i1
    rw [et k u' e2] at i2
    obtain ⟨t1, e3⟩ := i1.int_inv
    obtain ⟨t2, e4⟩ := i2.int_inv
    rw [e3, e4]; exact eq_at
  · rw [show (List.range vs.toArray.size).all (fun _ => true) = true by simp]; exact .bool
end
end

end
noncomputable section
/-- the letters of lines with these lengths, each with its newline -/
noncomputable def fullOf (ls : List Nat) : List Int := ls.flatMap fun d => List.replicate d 97 ++ [10]
noncomputable def csOf (ls : List Nat) : List Int := (fullOf ls).dropLast
noncomputable def sumOf (ls : List Nat) : Nat := (ls.map (· + 1)).sum
noncomputable def startOf (ls : List Nat) (i : Nat) : Int := 1 + (sumOf (ls.take i) : Int)
theorem fullOf_length (ls : List Nat) : (fullOf ls).length = sumOf ls := by
  induction ls with
  | nil => rfl
  | cons d r ih =>
    have : fullOf (d :: r) = List.replicate d 97 ++ [10] ++ fullOf r := by simp [fullOf]
    rw [this, List.length_append, ih]
    simp [sumOf]
theorem sumOf_append (a b : List Nat) : sumOf (a ++ b) = sumOf a + sumOf b := by simp [sumOf]
theorem fullOf_append (a b : List Nat) : fullOf (a ++ b) = fullOf a ++ fullOf b := by simp [fullOf]
theorem fullOf_cons (d : Nat) (r : List Nat) : fullOf (d :: r) = List.replicate d 97 ++ [10] ++ fullOf r := by simp [fullOf]
theorem ls_split {ls : List Nat} {i : Nat} (h : i < ls.length) : ls = ls.take i ++ (ls[i] :: ls.drop (i + 1)) := by
  simp
theorem sumOf_take {ls : List Nat} {i : Nat} (h : i < ls.length) : sumOf (ls.take (i + 1)) = sumOf (ls.take i) + ls[i] + 1 := by
  rw [List.take_succ_eq_append_getElem h, sumOf_append]
  simp [sumOf]; omega
theorem sumOf_take_le (ls : List Nat) (i : Nat) : sumOf (ls.take i) ≤ sumOf ls := by
  have := sumOf_append (ls.take i) (ls.drop i)
  rw [List.take_append_drop] at this
  omega
theorem fullOf_at {ls : List Nat} {i k : Nat} (h : i < ls.length) (hk : k ≤ ls[i]) : (fullOf ls)[sumOf (ls.take i) + k]? = some (if k < ls[i] then 97 else 10) := by
  have e : fullOf ls = fullOf (ls.take i) ++ (List.replicate ls[i] 97 ++ [10] ++ fullOf (ls.drop (i + 1))) :=
    (congrArg fullOf (ls_split h)).trans (by rw [fullOf_append, fullOf_cons])
  rw [e, List.getElem?_append_right (by rw [fullOf_length]; omega), fullOf_length, Nat.add_sub_cancel_left, List.append_assoc]
  by_cases hk2 : k < ls[i]
  · rw [List.getElem?_append_left (by simpa using hk2), if_pos hk2]
    simp [hk2]
  · have : k = ls[i] := by omega
    rw [List.getElem?_append_right (by simp; omega), if_neg hk2]
    simp [this]
theorem csOf_length {ls : List Nat} (h : 1 ≤ ls.length) : (csOf ls).length + 1 = sumOf ls := by
  have h2 : 1 ≤ sumOf ls := by
    have := sumOf_take (i := 0) (ls := ls) (by omega)
    have := sumOf_take_le ls 1
    simp at *; omega
  rw [csOf, List.length_dropLast, fullOf_length]
  omega
theorem codeAt_csOf {ls : List Nat} (h1 : 1 ≤ ls.length) {m : Nat} (hm : m + 1 < sumOf ls) {x : Int} (hx : (fullOf ls)[m]? = some x) : codeAt (csOf ls) (1 + m) = x := by
  have hl := csOf_length h1
  have h2 : (fullOf ls).length = sumOf ls := fullOf_length ls
  rw [codeAt, if_pos (by omega), show (1 + (m : Int) - 1).toNat = m by omega, List.getD, csOf, List.getElem?_dropLast, if_pos (by omega), hx]
  rfl
theorem text_of {ls : List Nat} (h1 : 1 ≤ ls.length) (h9 : ls.length ≤ 9) (h3 : ∀ d ∈ ls, d ≤ 3) : Text (csOf ls) ls.length (startOf ls) (fun i => ls.getD i 0) := by
  have hl := csOf_length h1
  have gd : ∀ i (h : i < ls.length), ls.getD i 0 = ls[i] := fun i h => by simp [List.getD, h]
  have fin : ∀ i, i < ls.length → sumOf (ls.take (i + 1)) ≤ sumOf ls := fun i _ => sumOf_take_le _ _
  refine ⟨h1, h9, by simp [startOf, sumOf], fun i hi => ?_, fun i hi => ?_, fun i hi => ?_⟩
  · rw [gd i hi]
    have e1 := sumOf_take hi
    have e2 := fin i hi
    refine ⟨by unfold startOf; omega, by unfold startOf; omega, Nat.le_trans (h3 _ (List.getElem_mem hi)) (by decide), fun k hk => ?_⟩
    have := codeAt_csOf h1 (m := sumOf (ls.take i) + k) (by omega) (fullOf_at hi (Nat.le_of_lt hk))
    rw [if_pos hk] at this
    rw [← this]; congr 1; unfold startOf; push_cast; omega
  · rw [gd i hi]
    have e1 := sumOf_take hi
    by_cases hb : i + 1 < ls.length
    · left
      have e3 := sumOf_take hb
      have e2 := fin (i + 1) hb
      refine ⟨by simp [hb], by unfold startOf; omega, ?_⟩
      have := codeAt_csOf h1 (m := sumOf (ls.take i) + ls[i]) (by omega) (fullOf_at hi (Nat.le_refl _))
      rw [if_neg (Nat.lt_irrefl _)] at this
      rw [← this]; congr 1; unfold startOf; push_cast; omega
    · right
      have : ls.take (i + 1) = ls := List.take_of_length_le (by omega)
      rw [this] at e1
      exact ⟨by simp [hb], by unfold startOf; omega⟩
  · rw [gd i hi]
    have e1 := sumOf_take hi
    unfold startOf; omega
theorem sumOf_short {ls : List Nat} (h : ∀ d ∈ ls, d < 4) : sumOf ls ≤ 4 * ls.length := by
  induction ls with
  | nil => simp [sumOf]
  | cons d r ih =>
    have h1 := h d (.head _)
    have h2 := ih fun x hx => h x (.tail _ hx)
    have : sumOf (d :: r) = d + 1 + sumOf r := by simp [sumOf]
    simp only [List.length_cons]
    omega
theorem fullOf_short {ls : List Nat} (h9 : ls.length ≤ 9) (h : ∀ d ∈ ls, d < 4) (i : Nat) : (fullOf (ls.take i)).length ≤ 100 := by
  rw [fullOf_length]
  have := sumOf_take_le ls i
  have := sumOf_short h
  omega

end
noncomputable section
noncomputable section
/-! the law: its lists -/
section
variable {w : World} {x : Cx w} {st : AS} {p : PV}
noncomputable def asgV (s : Stmt) : Expr := match s with | .Assign _ v _ => v | _ => .Constant .none 0 default
noncomputable def elt0 (e : Expr) : Expr := match e with | .List (e :: _) _ => e | _ => .Constant .none 0 default
noncomputable def optE (o : Option Expr) : Expr := match o with | some e => e | none => .Constant .none 0 default
noncomputable def sliceC (e : Expr) : Option {y : Str × Option Expr × Option Expr // ∃ vp sp pos, e = .Subscript (.Name y.1 vp) (.Slice y.2.1 y.2.2 none sp) pos} := match e with
  | .Subscript (.Name nm vp) (.Slice lo hi none sp) pos => some ⟨(nm, lo, hi), vp, sp, pos, rfl⟩
  | _ => none
noncomputable def sliceLo (e : Expr) : Option Expr := match e with | .Subscript _ (.Slice lo _ _ _) _ => lo | _ => none
noncomputable def sliceHi (e : Expr) : Option Expr := match e with | .Subscript _ (.Slice _ hi _ _) _ => hi | _ => none
noncomputable def PartG (x : Cx w) (e : Option Expr) (st : AS) (z : Option Int) : Prop := ∀ c, x.At c → Part c e st z
theorem PartG.none {o : Option Expr} (h : o.isNone = true) : PartG x o st none := fun c hc => by
  cases o with
  | none => exact trivial
  | some e => cases h
theorem PartG.some {o : Option Expr} {z : Int} (h : o.isSome = true) (hv : EvG x (optE o) st (.int z) st) : PartG x o st (some z) := fun c hc => by
  cases o with
  | none => cases h
  | some e => exact hv c hc
theorem EvG_slice {e : Expr} {nm : Str} {a b : Option Int} {k A B m : Nat} {f g : Nat → PV} (he : (sliceC e).map (·.1) = some (nm, sliceLo e, sliceHi e)) (h1 : ∀ vp, EvG x (.Name nm vp) st p st) (hl : PartG x (sliceLo e) st a) (hh : PartG x (sliceHi e) st b) (hp : itsOf st p = some (.sq k f)) (hk : k ≤ 1000) (hA : a.elim 0 (clipAt k) = A) (hB : b.elim k (clipAt k) = B)
    (hm : min (B - A) (k - A) = m) (hg : ∀ j, f (A + j) = g j) : EvG x e st (.seq m g) st := fun c hc => by
  generalize sliceLo e = lo at he hl
  generalize sliceHi e = hi at he hh
  cases q : sliceC e with
  | none => rw [q] at he; cases he
  | some y =>
    obtain ⟨y, vp, sp, pos, rfl⟩ := y
    rw [q] at he
    have he : some y = some (nm, lo, hi) := he
    cases he
    have := Ev_slice (sp := sp) (pos := pos) (h1 vp c hc) (hl c hc) (hh c hc) hp hk hA hB
    rw [hm, show (fun j => f (A + j)) = g from funext hg] at this
    exact this
end
section
variable {w : World} {g : Gl w} {n k : Nat} {d : Nat → Int}
noncomputable abbrev xl (g : Gl w) (n : Nat) : Cx w := ⟨g, n, scopeOf (KK w) 690, true, true⟩
/-- the law's list, as it is handed in -/
noncomputable def scriptP (k : Nat) (d : Nat → Int) : PV := .obj fun h a => ∃ vs : List Value, h.IsList a vs.toArray ∧ vs.length = k ∧ ∀ (j : Nat) v, vs[j]? = some v → ∃ t, v = .int (d j) t
noncomputable def l690 (k : Nat) (d : Nat → Int) : List (Str × PV) := [((Str.ofString "script"), scriptP k d), ((Str.ofString "line_starts"), .var 0), ((Str.ofString "at"), .var 1), ((Str.ofString "lengths"), .var 2), ((Str.ofString "deck"), .var 3)]
noncomputable def absF (d : Nat → Int) (j : Nat) : Int := if d j < 0 then -(d j) else d j
theorem nb_l690 {K : Nat} (h : 4 ≤ K) : ∀ e ∈ l690 k d, NB K e.2 := all_cons .obj (all_cons (.var (by omega)) (all_cons (.var (by omega)) (all_cons (.var (by omega)) (all_cons (.var (by omega)) all_nil))))
theorem Ev_sliceO {c : Act w} {st : AS} {nm : Str} {vp sp pos : Pos} {lo hi : Option Expr} {a b : Option Int} (h1 : Ev c (.Name nm vp) st (scriptP k d) st) (hl : Part c lo st a) (hh : Part c hi st b) (hk : k ≤ 1000) (hA : a.elim 0 (clipAt k) = 0) (hB : b.elim k (clipAt k) = k) :
    Ev c (.Subscript (.Name nm vp) (.Slice lo hi none sp) pos) st (intsP k d) st := fun W g tk R Q kQ =>
  Subscript_ (h1 W g tk R _ fun W1 v h1 tk1 l1 R1 i1 => wpAny_Slice (hl.wp R1 fun W2 vl h2 tk2 l2 R2 pl => hh.wp R2 fun W3 vu h3 tk3 l3 ⟨m, cs, R3⟩ pu => evalPart_none_step (by
    have i1 : Is w (W3.fact c.F) W3.ms (scriptP k d) v := i1.up (l2.trans l3)
    unfold scriptP at i1
    cases i1 with
    | @obj _ x hx =>
      obtain ⟨vs, hx, hlen, hv⟩ := hx h3 fun b o q => R3.at q
      refine slice_list R3.fr R3.news hx pl pu (fun h' F' N' => ?_) rfl (fun _ => rfl) (by rw [List.size_toArray, hlen]; exact size_ok hk)
      have lt : ∀ p ∈ cs ++ W3.fr, p.1 < h3.objs.size + 1 := fun p hp => Nat.lt_succ_of_lt (Heap.lt_size (R3.news p hp).1)
      obtain ⟨R4, l4⟩ := R3.grow (tl := [(_, _)]) F' N' (all_cons (P := fun p : Addr × Obj => p.1 ∉ W3.ms) (R3.above lt) all_nil)
      refine kQ _ _ h' _ (((l1.trans l2).trans l3).trans l4) ⟨m, cs, R4⟩ (.seq (n := 0) (vs := vs) (.inr ?_) hlen fun j u e => ?_)
      · rw [slicePick_plain, show vs.toArray.size = k from hlen, hA, hB]
        rw [show (vs.toArray.toList.drop 0).take (k - 0) = vs by
          rw [List.drop_zero, Nat.sub_zero]; exact List.take_of_length_le (Nat.le_of_eq hlen)]
        exact .head _
      · obtain ⟨t, rfl⟩ := hv j u e
        exact .int)))
theorem EvG_sliceO {e : Expr} {nm : Str} {a b : Option Int} {x : Cx w} {st : AS} (he : (sliceC e).map (·.1) = some (nm, sliceLo e, sliceHi e)) (h1 : ∀ vp, EvG x (.Name nm vp) st (scriptP k d) st) (hl : PartG x (sliceLo e) st a) (hh : PartG x (sliceHi e) st b) (hk : k ≤ 1000) (hA : a.elim 0 (clipAt k) = 0) (hB : b.elim k (clipAt k) = k) : EvG x e st (intsP k d) st := fun c hc => by
  generalize sliceLo e = lo at he hl
  generalize sliceHi e = hi at he hh
  cases q : sliceC e with
  | none => rw [q] at he; cases he
  | some y =>
    obtain ⟨y, vp, sp, pos, rfl⟩ := y
    rw [q] at he
    have he : some y = some (nm, lo, hi) := he
    cases he
    exact Ev_sliceO (h1 vp c hc) (hl c hc) (hh c hc) hk hA hB
/-! 0: the deck -/
noncomputable abbrev e0 (w : World) : Expr := elt0 (asgV (stAt (KK w) 690 0))
noncomputable def N4 : List MO := [.novar, .novar, .novar, .novar]
theorem s0 (hk : k ≤ 63) : Ex1G (xl g n) (stAt (KK w) 690 0) ⟨l690 k d, N4⟩ .next ⟨l690 k d, [.novar, .novar, .novar, .var (.cell 4), deckM k (absF d) 0]⟩ := by
  have sl : EvG (xl g n) (compIt (e0 w)) ⟨l690 k d, N4⟩ (intsP k d) ⟨l690 k d, N4⟩ :=
    EvG_sliceO (nm := (Str.ofString "script")) (a := none) (b := some 63) (by kernel_rfl) (fun vp => runE_ev (o := []) (ps := []) (by kernel_rfl) trivial) (.none (by kernel_rfl)) (.some (by kernel_rfl) (runE_ev (o := []) (ps := []) (by kernel_rfl) trivial)) (by omega) rfl
      (by show clipAt k 63 = k; unfold clipAt; split <;> omega)
  refine runS_ex (o := [.ev (intsP k (absF d)) ⟨l690 k d, N4⟩]) (ps := [EvG (xl g n) (e0 w) ⟨l690 k d, N4⟩ (intsP k (absF d)) ⟨l690 k d, N4⟩]) (by kernel_rfl) ⟨?_, trivial⟩
  refine EvG_ints (nm := (Str.ofString "cell")) (K := 4) (Cs := fun _ => N4) (t := .sq k fun j => .int (d j)) (by kernel_rfl) (by kernel_rfl) sl (fun c => .list rfl) (by kernel_rfl) (by decide) (fun _ _ => rfl) (fun _ _ => all_cons .novar (all_cons .novar (all_cons .novar (all_cons .novar all_nil)))) (nb_l690 (by decide)) (fun j q e => by rw [itsE_sq e]; exact .int) (fun j q o hj e => ⟨[], ?_⟩) (by show k ≤ 1000; omega)
  rw [itsE_sq e]
  let S : AS := ⟨compLoc (Str.ofString "cell") 5 (compSc (e0 w)) (l690 k d), N4 ++ [.raw o, .ns (Str.ofString "cell") (.int (d j)), .seq j fun j => .int (absF d j)]⟩
  exact runE_ev (o := [.ev (.int (absF d j)) S]) (ps := [BCallG ((xl g n).comp (e0 w)) (.builtin "abs") [.int (d j)] S (.int (absF d j)) S]) (by kernel_rfl) ⟨fun c hc => BCall_abs, trivial⟩
/-! 1: the lengths -/
noncomputable abbrev e1 (w : World) : Expr := asgV (stAt (KK w) 690 1)
/-- the cells: line_starts, at, lengths, deck, the deck's own -/
noncomputable def C5 (ls at_ len : MO) (k : Nat) (a : Nat → Int) (c : Int) : List MO := [ls, at_, len, .var (.cell 4), deckM k a c]
theorem nb_C5 {ls at_ len : MO} {a : Nat → Int} {c : Int} {K : Nat} (h1 : NBM K ls) (h2 : NBM K at_) (h3 : NBM K len) (hK : 5 ≤ K) : ∀ mo ∈ C5 ls at_ len k a c, NBM K mo :=
  all_cons h1 (all_cons h2 (all_cons h3 (all_cons (.var (.cell (by omega))) (all_cons (nc_deck.up (Nat.zero_le _)) all_nil))))
theorem draw5 {ls at_ len : MO} {a : Nat → Int} {c many : Int} {rest : List MO} (hk : k ≤ 63) (h0 : 0 ≤ c) (hc : c ≤ 1000) (hm : 0 < many) : CallTo g (n + 1) 666 [.cell 4, .int many] (C5 ls at_ len k a c ++ rest) (.int (drawV k a (c + 1) many)) (C5 ls at_ len k a (c + 1) ++ rest) :=
  a_draw hk h0 hc hm rfl rfl
theorem draw5' {ls at_ len : MO} {a : Nat → Int} {c many : Int} (hk : k ≤ 63) (h0 : 0 ≤ c) (hc : c ≤ 1000) (hm : 0 < many) : CallTo g (n + 1) 666 [.cell 4, .int many] (C5 ls at_ len k a c) (.int (drawV k a (c + 1) many)) (C5 ls at_ len k a (c + 1)) :=
  a_draw hk h0 hc hm rfl rfl
/-- how many lines -/
noncomputable def cntN (k : Nat) (a : Nat → Int) : Nat := (1 + drawV k a 1 9).toNat
theorem cntN_eq {a : Nat → Int} : ((cntN k a : Nat) : Int) = 1 + drawV k a 1 9 := by
  have := drawV_lo (k := k) (d := a) (c := 1) (many := 9) (by decide)
  unfold cntN; omega
theorem cntN_le {a : Nat → Int} : cntN k a ≤ 9 := by
  have := drawV_hi (k := k) (d := a) (c := 1) (many := 9) (by decide)
  unfold cntN; omega
theorem cntN_pos {a : Nat → Int} : 1 ≤ cntN k a := by
  have := drawV_lo (k := k) (d := a) (c := 1) (many := 9) (by decide)
  unfold cntN; omega
noncomputable def lenI (k : Nat) (a : Nat → Int) (j : Nat) : Int := drawV k a (2 + j) 4
theorem s1 {a : Nat → Int} (hk : k ≤ 63) : Ex1G (xl g (n + 1)) (stAt (KK w) 690 1) ⟨l690 k d, C5 .novar .novar .novar k a 0⟩ .next ⟨l690 k d, C5 .novar .novar (.var (intsP (cntN k a) (lenI k a))) k a (1 + (cntN k a : Nat))⟩ := by
  have h9 := cntN_le (k := k) (a := a)
  refine runS_ex (o := [.ev (intsP (cntN k a) (lenI k a)) ⟨l690 k d, C5 .novar .novar .novar k a (1 + (cntN k a : Nat))⟩]) (ps := [EvG (xl g (n + 1)) (e1 w) ⟨l690 k d, C5 .novar .novar .novar k a 0⟩ (intsP (cntN k a) (lenI k a)) ⟨l690 k d, C5 .novar .novar .novar k a (1 + (cntN k a : Nat))⟩]) (by kernel_rfl) ⟨?_, trivial⟩
  have it : EvG (xl g (n + 1)) (compIt (e1 w)) ⟨l690 k d, C5 .novar .novar .novar k a 0⟩ (rangeP (cntN k a : Int)) ⟨l690 k d, C5 .novar .novar .novar k a 1⟩ := by
    rw [cntN_eq]
    exact runE_ev (o := [.call (.int (drawV k a 1 9)) (C5 .novar .novar .novar k a 1)]) (ps := [CallTo g (n + 1) 666 [.cell 4, .int 9] (C5 .novar .novar .novar k a 0) (.int (drawV k a 1 9)) (C5 .novar .novar .novar k a 1)]) (by kernel_rfl) ⟨draw5' hk (by decide) (by decide) (by decide), trivial⟩
  refine EvG_ints (nm := (Str.ofString "lap")) (K := 5) (Cs := fun i => C5 .novar .novar .novar k a (1 + (i : Nat))) (t := .sq (cntN k a) fun j => .int (j : Nat)) (by kernel_rfl) (by kernel_rfl) it (fun c => Src1.range (by omega) (by omega) (by omega)) (by kernel_rfl) (by show 5 ≤ 5; omega) (fun _ _ => rfl) (fun _ _ => nb_C5 .novar .novar .novar (Nat.le_refl _)) (nb_l690 (by decide)) (fun j q e => by rw [itsE_sq e]; exact .int) (fun j q o hj e => ⟨[], ?_⟩) (by show cntN k a ≤ 1000; omega)
  rw [itsE_sq e]
  have hj : j < cntN k a := hj
  let T : List MO := [.raw o, .ns (Str.ofString "lap") (.int (j : Nat)), .seq j fun j => .int (lenI k a j)]
  have hd := draw5 (g := g) (n := n) (ls := .novar) (at_ := .novar) (len := .novar) (rest := T) (a := a) (c := 1 + (j : Nat)) (many := 4) hk (by omega) (by omega) (by decide)
  rw [show (1 : Int) + (j : Nat) + 1 = 1 + ((j + 1 : Nat) : Int) by omega, show drawV k a (1 + ((j + 1 : Nat) : Int)) 4 = lenI k a j from congrArg (fun c => drawV k a c 4) (by omega)] at hd
  exact runE_ev (o := [.call (.int (lenI k a j)) (C5 .novar .novar .novar k a (1 + ((j + 1 : Nat) : Int)) ++ T)]) (ps := [CallTo g (n + 1) 666 [.cell 4, .int 4] (C5 .novar .novar .novar k a (1 + (j : Nat)) ++ T) (.int (lenI k a j)) (C5 .novar .novar .novar k a (1 + ((j + 1 : Nat) : Int)) ++ T)]) (by kernel_rfl) ⟨hd, trivial⟩
end
end

end
noncomputable section
noncomputable section
/-! the law: its text -/
section
variable {w : World} {x : Cx w} {c : Act w} {st st1 st2 : AS} {p q r : PV} {k : Nat}
/-- two states' names: the same, in order -/
inductive Two (R : PV → PV → Prop) : List (Str × PV) → List (Str × PV) → Prop
  | nil : Two R [] []
  | cons {y p q l l'} : R p q → Two R l l' → Two R ((y, p) :: l) ((y, q) :: l')
theorem lk_two {R : PV → PV → Prop} {y : Str} {r : PV} {l l' : List (Str × PV)} (h : Two R l l') (e : lk y l' = some r) : ∃ p, lk y l = some p ∧ R p r := by
  induction h with
  | nil => cases e
  | @cons z a b l l' hd _ ih =>
    have e : cond (strEq y z) (some b) (lk y l') = some r := e
    show ∃ p, cond (strEq y z) (some a) (lk y l) = some p ∧ R p r
    cases hs : strEq y z with
    | true => rw [hs] at e; cases e; exact ⟨_, rfl, hd⟩
    | false => rw [hs] at e; exact ih e
noncomputable def Plain (p : PV) : Prop := ∀ i, p ≠ .var i ∧ p ≠ .nsv i
/-- what is kept of a name, seen with k cells -/
noncomputable def KeepP (w : World) (cells : List MO) (k : Nat) (p r : PV) : Prop := (r = p ∧ NB k p) ∨ (Plain p ∧ Drop w cells k p r)
theorem Fz.keepL {l l' : List (Str × PV)} {C more : List MO} (hl : Two (KeepP w (C ++ more) k) l l') (hC : ∀ mo ∈ C, NBM k mo) (hk : C.length = k) : Fz w ⟨l, C ++ more⟩ k ⟨l', C⟩ where
  le := by show k ≤ (C ++ more).length; rw [List.length_append, hk]; exact Nat.le_add_right _ _
  len := hk
  loc := fun y r e => by
    obtain ⟨p, e1, h1⟩ := lk_two hl e
    refine ⟨p, e1, ?_⟩
    rcases h1 with ⟨rfl, nb⟩ | h1
    · by_cases hv : ∃ i, r = .var i ∨ r = .nsv i
      · obtain ⟨i, h⟩ := hv
        refine .inl ⟨i, h, rfl, ?_⟩
        rcases h with rfl | rfl
        · cases nb with | var h => exact h
        · cases nb with | nsv h => exact h
      · exact .inr ⟨fun i => ⟨fun q => hv ⟨i, .inl q⟩, fun q => hv ⟨i, .inr q⟩⟩, nb.drop⟩
    · exact .inr h1
  cells := fun i r e => ⟨r, by
    have hi := (List.getElem?_eq_some_iff.mp e).1
    exact (List.getElem?_append_left hi).trans e, (hC _ (List.mem_of_getElem? e)).drop⟩
theorem keep_all {cells : List MO} {l : List (Str × PV)} (h : ∀ e ∈ l, NB k e.2) : Two (KeepP w cells k) l l := by
  induction l with
  | nil => exact .nil
  | cons e l ih => exact .cons (.inl ⟨rfl, h _ (.head _)⟩) (ih fun y hy => h y (.tail _ hy))
theorem two_app {R : PV → PV → Prop} {a a' b b' : List (Str × PV)} (h1 : Two R a a') (h2 : Two R b b') : Two R (a ++ b) (a' ++ b') := by
  induction h1 with
  | nil => exact h2
  | cons h _ ih => exact .cons h ih
theorem drop_conv {cells : List MO} (hd : Drop w cells k p q) (hc : ∀ F ms v, Is w F ms q v → Is w F ms r v) : Drop w cells k p r := fun F F' cs H v i => hc _ _ _ (hd F F' cs H v i)
theorem seq_congr {m : Nat} {f g : Nat → PV} (h : ∀ j, j < m → f j = g j) : ∀ F ms v, Is w F ms (.seq m f) v → Is w F ms (.seq m g) v := fun F ms v i => by
  obtain ⟨a, n, vs, rfl, f1, e, l⟩ := i.seq_inv
  exact .seq f1 e fun j u q => h j (e ▸ (List.getElem?_eq_some_iff.mp q).1) ▸ l j u q
theorem list_seq0 {f : Nat → PV} : ∀ F ms v, Is w F ms (.list []) v → Is w F ms (.seq 0 f) v := fun F ms v i => by
  obtain ⟨a, n, vs, rfl, f1, l⟩ := i.list_inv
  rw [l.nil_inv] at f1
  exact .seq f1 rfl fun j u q => (nil_get (i := j) q).elim
noncomputable def Weak (w : World) (p r : PV) : Prop := r = p ∨ (Plain p ∧ ∀ F ms v, Is w F ms p v → Is w F ms r v)
/-- what is known after a step, said otherwise -/
theorem RepX.locs {l l' : List (Str × PV)} {C : List MO} {W : Wd} {h : Heap} {m : Str → Option Value} {cs : List (Addr × Obj)} (R : RepX c W ⟨l, C⟩ h m cs) (k : ∀ y r, lk y l' = some r → ∃ p, lk y l = some p ∧ (r = p ∨ (Plain p ∧ ∀ F ms v, Is w F ms p v → Is w F ms r v))) : RepX c W ⟨l', C⟩ h m cs :=
  ⟨R.fr, R.news, R.ms, R.nodup, R.sep, fun y r e => by
    obtain ⟨p, e1, h1⟩ := k y r e
    rcases h1 with rfl | ⟨hp, hc⟩
    · exact R.loc y r e1
    · generalize ep : p = p' at e1
      cases R.loc y p' e1 with
      | frame iv hv => subst ep; exact .frame (hc _ _ _ iv) hv
      | var => exact absurd ep (hp _).1
      | nsv => exact absurd ep (hp _).2, R.len, R.cells⟩
theorem Ex1G.post {s : Stmt} {f : AF} {l l' : List (Str × PV)} {C : List MO} (h : Ex1G x s st f ⟨l, C⟩) (k : ∀ y r, lk y l' = some r → ∃ p, lk y l = some p ∧ (r = p ∨ (Plain p ∧ ∀ F ms v, Is w F ms p v → Is w F ms r v))) : Ex1G x s st f ⟨l', C⟩ := fun c hc W g tk R Q kQ =>
  h c hc W g tk R Q fun W' v h' tk' le ⟨m, cs, R'⟩ i => kQ W' v h' tk' le ⟨m, cs, R'.locs k⟩ i
theorem ExsG.post {s : List Stmt} {f : AF} {l l' : List (Str × PV)} {C : List MO} (h : ExsG x s st f ⟨l, C⟩) (k : ∀ y r, lk y l' = some r → ∃ p, lk y l = some p ∧ (r = p ∨ (Plain p ∧ ∀ F ms v, Is w F ms p v → Is w F ms r v))) : ExsG x s st f ⟨l', C⟩ := fun c hc W g tk R Q kQ =>
  h c hc W g tk R Q fun W' v h' tk' le ⟨m, cs, R'⟩ i => kQ W' v h' tk' le ⟨m, cs, R'.locs k⟩ i
theorem ExsG_one {s : Stmt} (h : Ex1G x s st .next st1) : ExsG x [s] st .next st1 := fun c hc => Exs_next (h c hc) Exs_nil
theorem locs_two {l l' : List (Str × PV)} (h : Two (Weak w) l l') : ∀ y r, lk y l' = some r → ∃ p, lk y l = some p ∧ (r = p ∨ (Plain p ∧ ∀ F ms v, Is w F ms p v → Is w F ms r v)) := fun y r e => lk_two h e
theorem same_all {l : List (Str × PV)} : Two (Weak w) l l := by
  induction l with
  | nil => exact .nil
  | cons e l ih => exact .cons (.inl rfl) ih
end
section
variable {w : World} {g : Gl w} {n k : Nat} {d a : Nat → Int} {c : Int} {N : Nat} {L : Nat → Nat}
noncomputable def codeP (l : List Int) : PV := .seq l.length fun j => .int (l.getD j 0)
theorem nb_code {K : Nat} {l : List Int} : NB K (codeP l) := .seq fun _ => .int
theorem plain_seq {m : Nat} {f : Nat → PV} : Plain (.seq m f) := fun i => ⟨(nomatch ·), (nomatch ·)⟩
theorem plain_cell {m : Nat} : Plain (.cell m) := fun i => ⟨(nomatch ·), (nomatch ·)⟩
/-- the lengths as naturals -/
noncomputable def lenP (N : Nat) (L : Nat → Nat) : PV := intsP N fun j => (L j : Nat)
noncomputable def lsOf (N : Nat) (L : Nat → Nat) : List Nat := (List.range N).map L
theorem lsOf_len : (lsOf N L).length = N := by simp [lsOf]
theorem lsOf_at {i : Nat} (h : i < N) : (lsOf N L)[i]'(by rw [lsOf_len]; exact h) = L i := by simp [lsOf]
noncomputable def C3 (N : Nat) (L : Nat → Nat) (k : Nat) (a : Nat → Int) (c : Int) : List MO := C5 .novar .novar (.var (lenP N L)) k a c
noncomputable def lc (k : Nat) (d : Nat → Int) (p : PV) : List (Str × PV) := l690 k d ++ [((Str.ofString "codes"), p)]
theorem nb_C3 {K : Nat} (h : 5 ≤ K) : ∀ mo ∈ C3 N L k a c, NBM K mo := nb_C5 .novar .novar (.var (.seq fun _ => .int)) h
theorem s2 : Ex1G (xl g n) (stAt (KK w) 690 2) ⟨l690 k d, C3 N L k a c⟩ .next ⟨lc k d (codeP []), C3 N L k a c⟩ := fun ac hc =>
  Ex1.freeze (k := 5) (st1 := ⟨lc k d (.cell 5), C3 N L k a c ++ [.list []]⟩) (runS_ex (o := []) (ps := []) (by kernel_rfl) trivial ac hc)
    (Fz.keepL (two_app (keep_all (nb_l690 (by decide))) (.cons (.inr ⟨plain_cell, drop_conv (show Drop w (C3 N L k a c ++ [.list []]) 5 (.cell 5) (.list []) from Drop.fz (n := 9) (.cell 5)) fun F ms v i => list_seq0 F ms v i⟩) .nil)) (nb_C3 (Nat.le_refl _)) rfl) rfl
/-- the state of the loop -/
noncomputable def cdS (N : Nat) (L : Nat → Nat) (k : Nat) (d a : Nat → Int) (c : Int) (i : Nat) : AS := ⟨lc k d (codeP (fullOf ((lsOf N L).take i))), C3 N L k a c⟩
theorem nb_lc {K : Nat} (h : 4 ≤ K) {l : List Int} : ∀ e ∈ lc k d (codeP l), NB K e.2 := fun e he => by
  rcases List.mem_append.mp he with he | he
  · exact nb_l690 h e he
  · rw [List.mem_singleton.mp he]; exact nb_code
theorem getD_left {l l' : List Int} {j : Nat} (h : j < l.length) : (l ++ l').getD j 0 = l.getD j 0 := by
  rw [List.getD_eq_getElem?_getD, List.getD_eq_getElem?_getD, List.getElem?_append_left h]
theorem getD_right {l l' : List Int} {j : Nat} : (l ++ l').getD (l.length + j) 0 = l'.getD j 0 := by
  rw [List.getD_eq_getElem?_getD, List.getD_eq_getElem?_getD, List.getElem?_append_right (Nat.le_add_right _ _), Nat.add_sub_cancel_left]
theorem getD_rep {m j : Nat} {z : Int} (h : j < m) : (List.replicate m z).getD j 0 = z := by
  rw [List.getD_eq_getElem?_getD, List.getElem?_replicate, if_pos h]; rfl
theorem code_app {l l' : List Int} {j : Nat} {u : PV} (e : (Its.sq l.length fun j => .int (l.getD j 0)).at? j = some u) : PV.int ((l ++ l').getD j 0) = u := by
  by_cases h : j < l.length
  · rw [Its.at_sq h] at e; cases e; rw [getD_left h]
  · rw [show (Its.sq l.length fun j => PV.int (l.getD j 0)).at? j = none from if_neg h] at e; cases e
theorem full_next {i : Nat} (h : i < N) : fullOf ((lsOf N L).take (i + 1)) = fullOf ((lsOf N L).take i) ++ (List.replicate (L i) 97 ++ [10]) := by
  rw [List.take_succ_eq_append_getElem (by rw [lsOf_len]; exact h), fullOf_append, lsOf_at h, fullOf_cons]
  simp [fullOf]
theorem ls_lt (hL : ∀ j, L j < 4) : ∀ y ∈ lsOf N L, y < 4 := fun y hy => by
  obtain ⟨j, _, rfl⟩ := List.mem_map.mp hy
  exact hL j
theorem full_short (hN : N ≤ 9) (hL : ∀ j, L j < 4) (i : Nat) : (fullOf ((lsOf N L).take i)).length ≤ 100 := fullOf_short (by rw [lsOf_len]; exact hN) (ls_lt hL) i
theorem lk_left {y : Str} {r : PV} {l l' : List (Str × PV)} (e : lk y l = some r) : lk y (l ++ l') = some r := by
  induction l with
  | nil => cases e
  | cons b l ih =>
    have e : cond (strEq y b.1) (some b.2) (lk y l) = some r := e
    show cond (strEq y b.1) (some b.2) (lk y (l ++ l')) = some r
    cases hs : strEq y b.1 with
    | true => rw [hs] at e; exact e
    | false => rw [hs] at e; exact ih e
theorem locs_left {w : World} {l l' : List (Str × PV)} : ∀ y r, lk y l = some r → ∃ p, lk y (l ++ l') = some p ∧ (r = p ∨ (Plain p ∧ ∀ F ms v, Is w F ms p v → Is w F ms r v)) := fun y r e => ⟨r, lk_left e, .inl rfl⟩
theorem cd_turn {i : Nat} {o : Obj} (hi : i < N) (hN : N ≤ 9) (hL : ∀ j, L j < 4) : ExsG (xl g n) (whB (stAt (KK w) 690 3)) ⟨setL (Str.ofString "length") (.int (L i : Nat)) (cdS N L k d a c i).loc, C3 N L k a c ++ [.raw o]⟩ .next ⟨(cdS N L k d a c (i + 1)).loc, C3 N L k a c ++ [.raw o]⟩ := by
  have hl := full_short (N := N) (L := L) hN hL i
  have hLi := hL i
  have e1 : (cdS N L k d a c (i + 1)).loc = lc k d (codeP (fullOf ((lsOf N L).take i) ++ List.replicate (L i) 97 ++ [10])) := by unfold cdS; rw [full_next hi, List.append_assoc]
  have e0 : (cdS N L k d a c i).loc = lc k d (codeP (fullOf ((lsOf N L).take i))) := rfl
  rw [e0, e1]
  generalize fullOf ((lsOf N L).take i) = F at hl
  let l1 : List (Str × PV) := lc k d (codeP F) ++ [((Str.ofString "length"), .int (L i : Nat))]
  let C6 : List MO := C3 N L k a c ++ [.raw o, .list [.int 97]]
  let st1 : AS := ⟨l1, C6⟩
  let st2 : AS := ⟨l1, C6 ++ [.list [.int 10]]⟩
  have one : whB (stAt (KK w) 690 3) = [oneS (whB (stAt (KK w) 690 3))] := by kernel_rfl
  rw [one]
  have hr : (F ++ List.replicate (L i) 97).length = F.length + L i := by simp
  have run : Ex1G (xl g n) (oneS (whB (stAt (KK w) 690 3))) ⟨l1, C3 N L k a c ++ [.raw o]⟩ .next ⟨lc k d (codeP (F ++ List.replicate (L i) 97 ++ [10])) ++ [((Str.ofString "length"), .int (L i : Nat))], (C3 N L k a c ++ [.raw o]) ++ [.list [.int 97], .list [.int 10]]⟩ :=
    runS_ex (o := [.ev (.seq (L i) fun _ => .int 97) st1, .ev (codeP (F ++ List.replicate (L i) 97)) st1, .ev (codeP (F ++ List.replicate (L i) 97 ++ [10])) st2])
      (ps := [OpG (xl g n) (binaryOp .Mult) st1 (.cell 6) (.int (L i : Nat)) (.seq (L i) fun _ => .int 97) st1, OpG (xl g n) (binaryOp .Add) st1 (codeP F) (.seq (L i) fun _ => .int 97) (codeP (F ++ List.replicate (L i) 97)) st1, OpG (xl g n) (binaryOp .Add) st2 (codeP (F ++ List.replicate (L i) 97)) (.cell 7) (codeP (F ++ List.replicate (L i) 97 ++ [10])) st2])
      (by kernel_rfl) ⟨fun c hc => Op_mul rfl (by omega), fun c hc => Op_add (t1 := .sq F.length fun j => .int (F.getD j 0)) (t2 := .sq (L i) fun _ => .int 97) rfl rfl hr.symm (by rw [hr]; omega) (fun j u e => code_app e) (fun j u e => ?_), fun c hc => Op_add (t1 := .sq (F ++ List.replicate (L i) 97).length fun j => .int ((F ++ List.replicate (L i) 97).getD j 0)) (t2 := .li [.int 10]) rfl rfl (by rw [List.length_append (as := F ++ _)]; rfl) (by rw [List.length_append (as := F ++ _), hr]; simp; omega) (fun j u e => code_app e) (fun j u e => ?_), trivial⟩
  · exact (ExsG_one fun ac hc => Ex1.freeze (k := 6) (run ac hc) (Fz.keepL (keep_all fun e he => by
      rcases List.mem_append.mp he with he | he
      · exact nb_lc (by decide) e he
      · rw [List.mem_singleton.mp he]; exact .int) (fun mo hm => by
      rcases List.mem_append.mp hm with hm | hm
      · exact nb_C3 (by decide) mo hm
      · rw [List.mem_singleton.mp hm]; exact .raw) rfl) rfl).post locs_left
  · have h : j < L i := by
      by_cases h : j < L i
      · exact h
      · rw [show (Its.sq (L i) fun _ => PV.int 97).at? j = none from if_neg h] at e; cases e
    rw [itsE_sq e]
    exact congrArg PV.int ((getD_right (l := F)).trans (getD_rep h))
  · have h : ([PV.int 10] : List PV)[j]? = some u := e
    cases j with
    | zero => cases h; exact congrArg PV.int (getD_right (l := F ++ List.replicate (L i) 97))
    | succ j => exact (nil_get (i := j) h).elim
theorem s3 (hN : N ≤ 9) (hL : ∀ j, L j < 4) : Ex1G (xl g n) (stAt (KK w) 690 3) ⟨lc k d (codeP []), C3 N L k a c⟩ .next ⟨lc k d (codeP (fullOf (lsOf N L))), C3 N L k a c⟩ := by
  have e : fullOf ((lsOf N L).take N) = fullOf (lsOf N L) := by rw [List.take_of_length_le (by rw [lsOf_len]; exact Nat.le_refl _)]
  refine Ex1G_for (nm := (Str.ofString "length")) (S := cdS N L k d a c) (stop := N) (p := lenP N L) (t := .sq N fun j => .int (L j : Nat)) (by kernel_rfl) (runE_ev (o := []) (ps := []) (by kernel_rfl) trivial) rfl (by kernel_rfl) (fun c W h m cs R => R) fun ac hc => ⟨fun i _ => ⟨nb_lc (Nat.le_of_ble_eq_true rfl), nb_C3 (Nat.le_refl _)⟩, fun i _ => rfl, fun i q os ho hi hq => ?_, .inl ⟨rfl, rfl, by unfold cdS; rw [e]⟩⟩
  obtain ⟨h1, h2⟩ := ho
  rcases os with _ | ⟨o1, _ | ⟨o2, os⟩⟩ <;> try (simp at h1; done)
  obtain ⟨o, rfl⟩ := h2 _ (.head _)
  rw [itsE_sq hq]
  exact cd_turn hi hN hL ac hc
theorem s4 (hN : N ≤ 9) (hL : ∀ j, L j < 4) : Ex1G (xl g n) (stAt (KK w) 690 4) ⟨lc k d (codeP (fullOf (lsOf N L))), C3 N L k a c⟩ .next ⟨lc k d (codeP (csOf (lsOf N L))), C3 N L k a c⟩ := by
  have hl := full_short (N := N) (L := L) hN hL N
  rw [List.take_of_length_le (by rw [lsOf_len]; exact Nat.le_refl _)] at hl
  have hc : csOf (lsOf N L) = (fullOf (lsOf N L)).dropLast := rfl
  generalize fullOf (lsOf N L) = F at hl hc
  generalize csOf (lsOf N L) = G at hc
  have hG : G.length = F.length - 1 := by rw [hc, List.length_dropLast]
  let p : PV := .seq G.length fun j => .int (F.getD j 0)
  have sl : EvG (xl g n) (asgV (stAt (KK w) 690 4)) ⟨lc k d (codeP F), C3 N L k a c⟩ p ⟨lc k d (codeP F), C3 N L k a c⟩ :=
    EvG_slice (p := codeP F) (nm := (Str.ofString "codes")) (a := none) (b := some (-1)) (k := F.length) (A := 0) (B := F.length - 1) (f := fun j => .int (F.getD j 0)) (by kernel_rfl) (fun vp => runE_ev (o := []) (ps := []) (by kernel_rfl) trivial) (.none (by kernel_rfl)) (.some (by kernel_rfl) (runE_ev (o := []) (ps := []) (by kernel_rfl) trivial)) rfl (by omega) rfl
      (by show clipAt F.length (-1) = F.length - 1; unfold clipAt; rw [if_pos (by decide)]; omega) (by rw [hG]; omega) (fun j => by rw [Nat.zero_add])
  refine Ex1G.post (l := lc k d p) (runS_ex (o := [.ev p ⟨lc k d (codeP F), C3 N L k a c⟩]) (ps := [EvG (xl g n) (asgV (stAt (KK w) 690 4)) ⟨lc k d (codeP F), C3 N L k a c⟩ p ⟨lc k d (codeP F), C3 N L k a c⟩]) (by kernel_rfl) ⟨sl, trivial⟩) (locs_two (two_app same_all (.cons (.inr ⟨plain_seq, seq_congr fun j hj => ?_⟩) .nil)))
  rw [hc, List.getD_eq_getElem?_getD, List.getD_eq_getElem?_getD, List.getElem?_dropLast, if_pos (by omega)]
end
end

end
noncomputable section
noncomputable section
/-! the law: where its lines begin -/
section
variable {w : World} {g : Gl w} {n k : Nat} {d a : Nat → Int} {c : Int} {N : Nat} {L : Nat → Nat} {p : PV}
noncomputable def binR (e : Expr) : Expr := match e with | .BinOp _ _ r _ => r | _ => .Constant .none 0 default
noncomputable abbrev e5 (w : World) : Expr := asgV (stAt (KK w) 690 5)
noncomputable abbrev e5i (w : World) : Expr := headE (callA (binR (compElt (e5 w))))
theorem sum_starts {i : Nat} (hi : i ≤ N) : ((List.range i).map fun j => ((L j : Nat) : Int) + 1).sum = (sumOf ((lsOf N L).take i) : Nat) := by
  induction i with
  | zero => simp [sumOf]
  | succ i ih =>
    rw [List.range_succ, List.map_append, List.sum_append, ih (by omega), sumOf_take (by rw [lsOf_len]; exact hi), lsOf_at hi]
    simp
    omega
noncomputable def startP (N : Nat) (L : Nat → Nat) : PV := intsP N (startOf (lsOf N L))
theorem s5 {cs : List Int} (hN : N ≤ 9) : Ex1G (xl g n) (stAt (KK w) 690 5) ⟨lc k d (codeP cs), C3 N L k a c⟩ .next ⟨lc k d (codeP cs), C5 (.var (startP N L)) .novar (.var (lenP N L)) k a c⟩ := by
  let l : List (Str × PV) := lc k d (codeP cs)
  refine runS_ex (o := [.ev (startP N L) ⟨l, C3 N L k a c⟩]) (ps := [EvG (xl g n) (e5 w) ⟨l, C3 N L k a c⟩ (startP N L) ⟨l, C3 N L k a c⟩]) (by kernel_rfl) ⟨?_, trivial⟩
  refine EvG_ints (nm := (Str.ofString "at")) (K := 5) (Cs := fun _ => C3 N L k a c) (t := .sq N fun j => .int (j : Nat)) (by kernel_rfl) (by kernel_rfl) (runE_ev (p := rangeP (N : Int)) (o := []) (ps := [N ≤ 1000]) (by kernel_rfl) ⟨by omega, trivial⟩) (fun c => Src1.range (by omega) (by omega) (by omega)) (by kernel_rfl) (Nat.le_refl _) (fun _ _ => rfl) (fun _ _ => nb_C3 (Nat.le_refl _)) (nb_lc (by decide)) (fun j q e => by rw [itsE_sq e]; exact .int) (fun i q o hi e => ⟨[], ?_⟩) (by show N ≤ 1000; omega)
  rw [itsE_sq e]
  have hi : i < N := hi
  let l8 : List (Str × PV) := compLoc (Str.ofString "at") 6 (compSc (e5 w)) l
  let C8 : List MO := C3 N L k a c ++ [.raw o, .ns (Str.ofString "at") (.int (i : Nat)), .seq i fun j => .int (startOf (lsOf N L) j)]
  let q : PV := intsP i fun j => ((L j : Nat) : Int) + 1
  have sm := sum_starts (L := L) (Nat.le_of_lt hi)
  have inner : EvG ((xl g n).comp (e5 w)) (e5i w) ⟨l8, C8⟩ q ⟨l8, C8⟩ := by
    have sl : EvG ((xl g n).comp (e5 w)) (compIt (e5i w)) ⟨l8, C8⟩ (.seq i fun j => .int (L j : Nat)) ⟨l8, C8⟩ :=
      EvG_slice (p := lenP N L) (nm := (Str.ofString "lengths")) (a := none) (b := some (i : Int)) (k := N) (A := 0) (B := i) (f := fun j => .int (L j : Nat)) (by kernel_rfl) (fun vp => runE_ev (o := []) (ps := []) (by kernel_rfl) trivial) (.none (by kernel_rfl)) (.some (by kernel_rfl) (runE_ev (o := []) (ps := []) (by kernel_rfl) trivial)) rfl (by omega) rfl
        (by show clipAt N i = i; unfold clipAt; rw [if_neg (by omega)]; omega) (by omega) (fun j => by rw [Nat.zero_add])
    refine EvG_ints (nm := (Str.ofString "own")) (K := 8) (Cs := fun _ => C8) (t := .sq i fun j => .int (L j : Nat)) (by kernel_rfl) (by kernel_rfl) sl (fun c => .list rfl) (by kernel_rfl) (Nat.le_refl _) (fun _ _ => rfl) (fun _ _ mo hm => ?_) (fun e he => ?_) (fun j q e => by rw [itsE_sq e]; exact .int) (fun j q o hj e => ⟨[], ?_⟩) (by show i ≤ 1000; omega)
    · rcases List.mem_append.mp hm with hm | hm
      · exact nb_C3 (by decide) mo hm
      · exact all_cons .raw (all_cons (.ns .int) (all_cons (.seq fun _ => .int) all_nil)) mo hm
    · rcases List.mem_cons.mp he with rfl | he
      · exact .nsv (by decide)
      · exact nb_lc (by decide) e ((List.mem_filter.mp he).1)
    · rw [itsE_sq e]
      exact runE_ev (o := []) (ps := []) (by kernel_rfl) trivial
  refine runE_ev (o := [.ev q ⟨l8, C8⟩, .ev (.int (sumOf ((lsOf N L).take i) : Nat)) ⟨l8, C8⟩]) (ps := [EvG ((xl g n).comp (e5 w)) (e5i w) ⟨l8, C8⟩ q ⟨l8, C8⟩, BCallG ((xl g n).comp (e5 w)) (.builtin "sum") [q] ⟨l8, C8⟩ (.int (sumOf ((lsOf N L).take i) : Nat)) ⟨l8, C8⟩]) (by kernel_rfl) ⟨inner, fun c hc => ?_, trivial⟩
  rw [← sm]
  exact BCall_sum rfl
end
end

end
noncomputable section
noncomputable section
/-! FaceTable(): dicts of one pair -/
section
open PySem.Spec
variable {w : World} {x : Cx w} {c : Act w} {st st1 : AS} {pk pv : PV}
noncomputable abbrev emptyD : Obj := { cls := .type "dict", data := .dict #[] }
/-- a key that an empty dict takes -/
noncomputable def SetOk (c : Act w) (pk : PV) : Prop := ∀ (W : Wd) (h : Heap) (tk : Nat) (kv vv : Value) (d : Addr) (Q : Unit → Shared → Prop), (∀ b o, c.H.get? b = some o → h.get? b = some o) → Iv c pk W kv → h.get? d = some emptyD →
  (∀ h' tk' o', h'.get? d = some o' → Heap.SameBut d h h' → Q () (c.sh h' tk')) → wpAny c.M c.A (dictSet d kv vv) Q never (c.sh h tk)
theorem SetOk.str {s : Str} : SetOk c (.str s) := fun W h tk kv vv d Q _ i hd k => by
  obtain ⟨t, rfl⟩ : ∃ t, kv = .str s t := by cases i; exact ⟨_, rfl⟩
  obtain ⟨o, ho, hi⟩ := Heap.dictOf_iff.mp (Heap.DictOf.new (knd := PySem.strKind c.prog w) h)
  rw [Heap.get?_push_size _ rfl] at ho
  cases ho
  refine wpAny_dictSet_pairs (knd := PySem.strKind c.prog w) (kvs := []) (k := s) (by simp [PySem.strKind, Value.isStrOf]) (Heap.dictOf_iff.mpr ⟨_, hd, hi⟩) (fun h' hm hs => ?_) (Nat.zero_le _)
  obtain ⟨o', ho', _⟩ := Heap.dictOf_iff.mp hm
  exact k h' _ o' ho' hs
theorem SetOk.plain : SetOk c (.glob (.ref 588)) := fun W h tk kv vv d Q hk i hd k => by
  cases Is.glob_eq i
  have h1 : h.get? 588 = some (tupOf [.int 0 1079, .int 0 1080, .int 0 1081, .int 0 1082, .int 0 1083, .int 0 1084] 0) := hk _ _ (c.X _ _ (by kernel_rfl))
  have tk1 : TupKeyObj (intKind c.prog w) [0, 0, 0, 0, 0, 0] (tupOf [.int 0 1079, .int 0 1080, .int 0 1081, .int 0 1082, .int 0 1083, .int 0 1084] 0) := ⟨rfl, _, _, rfl, by
    repeat (first | exact .nil | refine .cons (by simp [intKind, Value.isInt]) ?_)⟩
  refine wpAny_dictSet_heap (knd := tupleKind (intKind c.prog w)) (xs := []) (Nat.lt_of_lt_of_le c.units (by decide)) (tk1.key h1) ⟨_, _, _, hd, ⟨rfl, rfl, rfl⟩, rfl, rfl, fun x hx => (nomatch hx), List.nodup_nil⟩ (fun h' hm hs => ?_) (Nat.zero_le _)
  obtain ⟨o', es', ep', ho', _⟩ := hm
  exact k h' _ o' ho' hs
theorem Ev_dict1 {kx vx : Expr} {pos : Pos} {l : List (Str × PV)} {C more : List MO} (hk : Ev c kx ⟨l, C ++ [.raw emptyD]⟩ pk ⟨l, C ++ [.raw emptyD]⟩) (hv : Ev c vx ⟨l, C ++ [.raw emptyD]⟩ pv ⟨l, C ++ ([.raw emptyD] ++ more)⟩) (hs : SetOk c pk)
    (hl : ∀ e ∈ l, NB C.length e.2) (hC : ∀ mo ∈ C, NBM C.length mo) : Ev c (.Dict [some kx] [vx] pos) ⟨l, C⟩ .any ⟨l, C⟩ := by
  rintro W g tk ⟨m, cs, R⟩ Q kQ
  have hlen : C.length = W.ms.length := by rw [← R.ms, List.length_map]; exact R.len
  refine wpAny_Dict_any rfl rfl (List.cons_ne_nil _ _) (show 1 ≤ 15 by decide) (evalPairs_cons (hk _ _ tk ⟨m, _, push_more R rfl⟩ _ fun W1 kv h1 tk1 l1 R1 ik => wpAny_bind (hv W1 h1 tk1 R1 _ fun W2 vv h2 tk2 l2 ⟨m2, cs2, R2⟩ iv => wpAny_bind (wpAny_standAt (wpAny_pure (evalPairs_nil ?_))))))
  obtain ⟨rest, er⟩ := prefix_of (l1.trans l2).ms
  obtain ⟨fr2, ms2⟩ := W2
  obtain rfl : ms2 = W.ms ++ (g.objs.size :: rest) := er.trans (List.append_assoc _ _ _)
  have hm : (W.ms ++ (g.objs.size :: rest))[C.length]? = some g.objs.size := by rw [hlen, List.getElem?_append_right (Nat.le_refl _), Nat.sub_self]; rfl
  obtain ⟨o, _, hd, im⟩ := R2.cellAt (i := C.length) (mo := .raw emptyD) (a := g.objs.size) (by show (C ++ _)[C.length]? = _; rw [List.getElem?_append_right (Nat.le_refl _), Nat.sub_self]; rfl) hm
  cases im
  have off := R2.off' (a := g.objs.size) (List.mem_append_right _ (.head _))
  have X := RepX.less (st := ⟨l, C⟩) R2 hlen ⟨hl, hC⟩
  have dj := RepX.disj (st := ⟨l, C⟩) R2 hlen
  unfold storeAll
  rw [List.forIn_cons]
  refine wpAny_bind (wpAny_bind (hs _ h2 tk2 kv vv g.objs.size _ R2.fr.keep (Is.up l2 ik) hd fun h' tk' o' ho' hsb => wpAny_pure ?_))
  dsimp only
  rw [List.forIn_nil]
  refine wpAny_pure (kQ ⟨fr2, W.ms⟩ (.ref g.objs.size) h' tk' ⟨fun p q => (l1.trans l2).fr p q, fun _ _ q => q⟩ ⟨m2, _, X.apart (wr := [g.objs.size]) (fun b o hb e => (hsb.2 b fun q => hb (by rw [q]; exact .head _)).trans e) (fun a ha => by rw [List.mem_singleton.mp ha]; exact off) fun p hp hm => dj p hp (by rw [List.mem_singleton.mp hm]; exact .head _)⟩ (.any rfl))
noncomputable def dictC (e : Expr) : Option {y : Expr × Expr // ∃ pos, e = .Dict [some y.1] [y.2] pos} := match e with
  | .Dict [some k] [v] pos => some ⟨(k, v), pos, rfl⟩
  | _ => none
noncomputable def dictK (e : Expr) : Expr := match e with | .Dict [some k] _ _ => k | _ => .Constant .none 0 default
noncomputable def dictV (e : Expr) : Expr := match e with | .Dict _ [v] _ => v | _ => .Constant .none 0 default
theorem EvG_dict1 {e : Expr} {l : List (Str × PV)} {C more : List MO} (he : (dictC e).map (·.1) = some (dictK e, dictV e)) (hk : EvG x (dictK e) ⟨l, C ++ [.raw emptyD]⟩ pk ⟨l, C ++ [.raw emptyD]⟩) (hv : EvG x (dictV e) ⟨l, C ++ [.raw emptyD]⟩ pv ⟨l, C ++ ([.raw emptyD] ++ more)⟩) (hs : ∀ c : Act w, SetOk c pk)
    (hl : ∀ e ∈ l, NB C.length e.2) (hC : ∀ mo ∈ C, NBM C.length mo) : EvG x e ⟨l, C⟩ .any ⟨l, C⟩ := fun c hc => by
  generalize dictK e = kx at he hk
  generalize dictV e = vx at he hv
  cases q : dictC e with
  | none => rw [q] at he; cases he
  | some y =>
    obtain ⟨y, pos, rfl⟩ := y
    rw [q] at he
    have he : some y = some (kx, vx) := he
    cases he
    exact Ev_dict1 (hk c hc) (hv c hc) (hs c) hl hC
end
section
variable {w : World} {g : Gl w} {n : Nat}
theorem fn_605 (P : Params) : FnAtD (hd.heap_39 P) 605 [(Str.ofString "self"), (Str.ofString "parts"), (Str.ofString "parents")] [.ref 597] := ⟨by kernel_rfl, by kernel_rfl, by kernel_rfl, by decide +kernel, by kernel_rfl, by rintro (_ | ⟨v0, _ | ⟨v1, _ | ⟨v2, vs⟩⟩⟩) h s X <;> first | (simp at h; done) | (obtain ⟨o, m, h1, h2⟩ := ds_of (T := 598) (ds := [.ref 597]) (K := hd.heap_39 P) (by kernel_rfl) (by decide); exact binds_K X (by kernel_rfl) h1 h2 rfl (by kernel_rfl))⟩
theorem fn_626 (P : Params) : FnAt (hd.heap_39 P) 626 [(Str.ofString "self")] := ⟨by kernel_rfl, by kernel_rfl, by kernel_rfl, by decide +kernel, by rintro (_ | ⟨v0, _ | ⟨v1, vs⟩⟩) h <;> first | (simp at h; done) | kernel_rfl⟩
noncomputable def faceP : PV := .inst 608 [((Str.ofString "parts"), .glob (.ref 588)), ((Str.ofString "parents"), .glob (.ref 597))]
theorem a_face : CallTo g (n + 2) 608 [.glob (.ref 588)] [] faceP [] :=
  (CodeTo.new (cells := []) (by kernel_rfl) (run_allD (fn_605 _) (show runP g n 605 [(Str.ofString "self"), (Str.ofString "parts"), (Str.ofString "parents")] [.mob 608 0, .glob (.ref 588), .glob (.ref 597)] [.dict []] [] = some (.next, [.dict [((Str.ofString "parts"), .glob (.ref 588)), ((Str.ofString "parents"), .glob (.ref 597))]], []) by kernel_rfl) rfl rfl trivial rfl (Nat.le_refl _))).call.frz
theorem a_table : CallTo g (n + 4) 655 [] [] (tableP w) [] := by
  let st0 : AS := ⟨[((Str.ofString "self"), .mob 655 0)], [.dict []]⟩
  let st2 : AS := ⟨[((Str.ofString "self"), .mob 655 0)], [.dict [((Str.ofString "by_name"), .any), ((Str.ofString "looks"), .cell 1)], .list [.glob (.ref 588)]]⟩
  have d0 : EvG (.of g (n + 2) 626) (asgV (stAt (KK w) 626 0)) st0 .any st0 :=
    EvG_dict1 (l := [((Str.ofString "self"), .mob 655 0)]) (C := [.dict []]) (more := []) (pk := .str (Str.ofString "default")) (pv := faceP) (by kernel_rfl) (runE_ev (o := []) (ps := []) (by kernel_rfl) trivial)
      (runE_ev (o := [.call faceP [.dict [], .raw emptyD]]) (ps := [CallTo g (n + 2) 608 [.glob (.ref 588)] [.dict [], .raw emptyD] faceP [.dict [], .raw emptyD]]) (by kernel_rfl) ⟨(a_face (n := n)).frame (NCL.cons .glob NCL.nil), trivial⟩) (fun c => SetOk.str) (all_cons (.mob (by decide)) all_nil) (all_cons (.dict (fun x h => nomatch h)) all_nil)
  have d2 : EvG (.of g (n + 2) 626) (asgV (stAt (KK w) 626 2)) st2 .any st2 :=
    EvG_dict1 (l := [((Str.ofString "self"), .mob 655 0)]) (C := [.dict [((Str.ofString "by_name"), .any), ((Str.ofString "looks"), .cell 1)], .list [.glob (.ref 588)]]) (more := []) (pk := .glob (.ref 588)) (pv := .int 0) (by kernel_rfl) (runE_ev (o := []) (ps := []) (by kernel_rfl) trivial)
      (runE_ev (o := []) (ps := []) (by kernel_rfl) trivial) (fun c => SetOk.plain) (all_cons (.mob (by decide)) all_nil) (all_cons (.dict (all_cons (P := fun x : Str × PV => NB 2 x.2) .any (all_cons (P := fun x : Str × PV => NB 2 x.2) (.cell (by decide)) all_nil))) (all_cons (.list (all_cons .glob all_nil)) all_nil))
  have h := (CodeTo.new (cells := []) (by kernel_rfl) (run_all (fn_626 _) (show runP g (n + 2) 626 [(Str.ofString "self")] [.mob 655 0] [.dict []] [.ev .any st0, .ev .any st2] = some (.next, [.dict [((Str.ofString "by_name"), .any), ((Str.ofString "looks"), .cell 1), ((Str.ofString "numbers"), .any)], .list [.glob (.ref 588)]], [EvG (.of g (n + 2) 626) (asgV (stAt (KK w) 626 0)) st0 .any st0, EvG (.of g (n + 2) 626) (asgV (stAt (KK w) 626 2)) st2 .any st2]) by kernel_rfl) rfl ⟨d0, d2, trivial⟩ rfl (by decide))).call.frz
  exact h
end
end

end
noncomputable section
noncomputable section
/-! the law: what is due, and what is told -/
section
variable {w : World} {g : Gl w} {n : Nat} {cs : List Int} {N : Nat} {P : Nat → Int} {D : Nat → Nat} {f i high : Nat} {z c kp d : Int}
/-- both sides of the first comparison give r -/
structure Same (g : Gl w) (n : Nat) (cs : List Int) (N : Nat) (P : Nat → Int) (f high : Nat) (z kp : Int) (up cn : Bool) (c d : Int) (r : PV) : Prop where
  due : CallTo g n 678 (ar678 N P f z d high) [] r []
  told : CallTo g n 685 (ar6 w cs high up (P f) z kp cn c) [] r [] ∨ ∃ s, r = .str s ∧ ToldX g n (ar6 w cs high up (P f) z kp cn c) s
noncomputable def ddOf (up : Bool) (c : Int) : Int := match up with | true => c | false => 0 - c
theorem same {up cn : Bool} (hc : cs.length ≤ 100) (hT : Text cs N P D) (hD : ∀ m, m < N → D m ≤ 100) (hf : f < N) (h1 : P i ≤ z) (h2 : z < P (i + 1)) (hi : i < N) (hh : 1 ≤ high) (hz1 : 1 ≤ z) (hz2 : z < P N) (hcv : cvOk cn high kp c) :
    ∃ r, ((∃ s, r = .str s) ∨ ∃ A B, r = .tup [.int A, .int B]) ∧ Same g (n + 22) cs N P f high z kp up cn c (ddOf up c) r := by
  have h9 := hT.nine
  have rows : CallTo g (n + 20) 486 [paneP w cs high, .int (P f)] [] (rowsP N P D f (min high (N - f))) [] := a_rows_from (n := n + 3) hc hT hf hh
  by_cases e1 : 0 < ddOf up c ∧ f + 1 = N
  · refine ⟨_, .inl ⟨_, rfl⟩, (a_lscr_end (n := n + 21) h9 e1), .inr ⟨_, rfl, ?_⟩⟩
    refine told_x (n := n + 21) ?_
    cases up with
    | true => exact (up_raise (n := n + 1) hc hT hf hh hcv e1.1 e1.2)
    | false =>
      have e1 : 0 < 0 - c ∧ f + 1 = N := e1
      cases cn with
      | true => have := hcv rfl; omega
      | false => exact down_neg_raise (by omega) (up_raise (n := n) hc hT hf hh (fun e => nomatch e) (by omega) e1.2)
  · by_cases e2 : ddOf up c < 0 ∧ f = 0
    · refine ⟨_, .inl ⟨_, rfl⟩, (a_lscr_beg (n := n + 21) e2), .inr ⟨_, rfl, ?_⟩⟩
      have hP0 : P f ≤ 1 := by rw [e2.2]; exact Int.le_of_eq hT.first
      refine told_x (n := n + 21) ?_
      cases up with
      | true =>
        have e2 : c < 0 ∧ f = 0 := e2
        cases cn with
        | true => have := hcv rfl; omega
        | false => exact up_neg_raise e2.1 rows (down_raise (n := n + 16) (fun e => nomatch e) (by omega) hP0)
      | false =>
        have e2 : 0 - c < 0 ∧ f = 0 := e2
        exact down_raise (n := n + 17) hcv (by omega) hP0
    · refine ⟨scR N P f high z (ddOf up c), .inr ⟨_, _, rfl⟩, (a_lscr (n := n + 20) hT h1 h2 hi hf hh e1 e2), .inl ?_⟩
      refine a_told (n := n + 21) ?_
      cases up with
      | true =>
        have e1 : ¬ (0 < c ∧ f + 1 = N) := e1
        have e2 : ¬ (c < 0 ∧ f = 0) := e2
        show CallTo g (n + 21) 529 _ [] (scR N P f high z c) []
        by_cases h0 : 0 ≤ c
        · exact a_up_go (n := n + 1) hc hT hD hf hh hz1 hz2 hcv h0 e1
        · cases cn with
          | true => have := hcv rfl; omega
          | false =>
            have := a_up_neg (n := n + 20) (by omega) (a_down_go (n := n) (cn := false) (c := 0 - c) (kp := kp) hc hT hD hf hh hz1 hz2 (fun e => nomatch e) (by omega) (by omega)) rows
            rwa [show (0 : Int) - (0 - c) = c by omega] at this
      | false =>
        have e1 : ¬ (0 < 0 - c ∧ f + 1 = N) := e1
        have e2 : ¬ (0 - c < 0 ∧ f = 0) := e2
        show CallTo g (n + 21) 537 _ [] (scR N P f high z (0 - c)) []
        by_cases h0 : 0 ≤ c
        · exact a_down_go (n := n + 1) hc hT hD hf hh hz1 hz2 hcv h0 (by omega)
        · cases cn with
          | true => have := hcv rfl; omega
          | false => exact a_down_neg (n := n + 20) (by omega) (a_up_go (n := n) (cn := false) (c := 0 - c) (kp := kp) hc hT hD hf hh hz1 hz2 (fun e => nomatch e) (by omega) (by omega))
end
end

end
noncomputable section
noncomputable section
/-! the law: one lap -/
section
variable {w : World} {g : Gl w} {n k : Nat} {d a : Nat → Int} {c : Int} {N : Nat} {L : Nat → Nat} {cs : List Int} {hi f i m kk : Nat} {zv v3 v4 v5 v6 ln X Y : Int} {cn up : Bool} {r : PV} {at_ : MO} {o : Obj}
noncomputable def nth (l : List Stmt) (i : Nat) : Stmt := match l[i]? with | some s => s | none => .Return none default
noncomputable abbrev b8 (w : World) (i : Nat) : Stmt := nth (whB (stAt (KK w) 690 8)) i
theorem body8 (w : World) : whB (stAt (KK w) 690 8) = [b8 w 0, b8 w 1, b8 w 2, b8 w 3, b8 w 4, b8 w 5, b8 w 6, b8 w 7, b8 w 8, b8 w 9, b8 w 10, b8 w 11, b8 w 12, b8 w 13, b8 w 14, b8 w 15] := by kernel_rfl
noncomputable def l7 (w : World) (k : Nat) (d : Nat → Int) (cs : List Int) (hi : Nat) : List (Str × PV) := lc k d (codeP cs) ++ [((Str.ofString "high"), .int hi), ((Str.ofString "pane"), paneP w cs hi)]
/-- the cells of a lap -/
noncomputable def CB (N : Nat) (L : Nat → Nat) (at_ : MO) (k : Nat) (a : Nat → Int) (c : Int) (o : Obj) : List MO := C5 (.var (startP N L)) at_ (.var (lenP N L)) k a c ++ [.raw o]
noncomputable def la (w : World) (k : Nat) (d : Nat → Int) (cs : List Int) (hi m : Nat) (zv : Int) (f : Nat) : List (Str × PV) := l7 w k d cs hi ++ [((Str.ofString "lap"), .int m), ((Str.ofString "place"), .int (1 + zv)), ((Str.ofString "first"), .int f)]
noncomputable def lb (cn : Bool) (v4 v5 c : Int) : List (Str × PV) := [((Str.ofString "is_up"), .sbool (v5 == 0)), ((Str.ofString "kept"), .int v4), ((Str.ofString "count"), cvP cn c)]
/-- the count that counts -/
noncomputable def effC (cn : Bool) (hi : Nat) (v3 v4 : Int) : Int := match cn with | true => max 1 ((hi : Int) - v4) | false => v3 - 5
theorem drawB {many c' : Int} (hk : k ≤ 63) (h0 : 0 ≤ c) (hc : c ≤ 1000) (hm : 0 < many) (e : c + 1 = c') : CallTo g (n + 1) 666 [.cell 4, .int many] (CB N L at_ k a c o) (.int (drawV k a c' many)) (CB N L at_ k a c' o) := e ▸ draw5 hk h0 hc hm
theorem t0 (h1 : N ≤ 1000) (h2 : cs.length ≤ 1000) (hf : CallTo g n 666 [.cell 4, .int (N : Nat)] (CB N L at_ k a c o) (.int f) (CB N L at_ k a (c + 1) o)) (hz : CallTo g n 666 [.cell 4, .int ((cs.length : Nat) + 1)] (CB N L at_ k a (c + 1) o) (.int zv) (CB N L at_ k a (c + 2) o)) :
    Ex1G (xl g n) (b8 w 0) ⟨l7 w k d cs hi ++ [((Str.ofString "lap"), .int m)], CB N L at_ k a c o⟩ .next ⟨la w k d cs hi m zv f, CB N L at_ k a (c + 2) o⟩ :=
  runS_ex (o := [.call (.int f) (CB N L at_ k a (c + 1) o), .call (.int zv) (CB N L at_ k a (c + 2) o)]) (ps := [N ≤ 1000, CallTo g n 666 [.cell 4, .int (N : Nat)] (CB N L at_ k a c o) (.int f) (CB N L at_ k a (c + 1) o), cs.length ≤ 1000, CallTo g n 666 [.cell 4, .int ((cs.length : Nat) + 1)] (CB N L at_ k a (c + 1) o) (.int zv) (CB N L at_ k a (c + 2) o)])
    (by kernel_rfl) ⟨h1, hf, h2, hz, trivial⟩
theorem t1 (h3 : CallTo g n 666 [.cell 4, .int 15] (CB N L at_ k a (c + 2) o) (.int v3) (CB N L at_ k a (c + 3) o)) (h4 : CallTo g n 666 [.cell 4, .int 4] (CB N L at_ k a (c + 3) o) (.int v4) (CB N L at_ k a (c + 4) o)) (h5 : CallTo g n 666 [.cell 4, .int 2] (CB N L at_ k a (c + 4) o) (.int v5) (CB N L at_ k a (c + 5) o)) :
    Ex1G (xl g n) (b8 w 1) ⟨la w k d cs hi m zv f, CB N L at_ k a (c + 2) o⟩ .next ⟨la w k d cs hi m zv f ++ lb false v4 v5 (v3 - 5), CB N L at_ k a (c + 5) o⟩ :=
  runS_ex (o := [.call (.int v3) (CB N L at_ k a (c + 3) o), .call (.int v4) (CB N L at_ k a (c + 4) o), .call (.int v5) (CB N L at_ k a (c + 5) o)])
    (ps := [CallTo g n 666 [.cell 4, .int 15] (CB N L at_ k a (c + 2) o) (.int v3) (CB N L at_ k a (c + 3) o), CallTo g n 666 [.cell 4, .int 4] (CB N L at_ k a (c + 3) o) (.int v4) (CB N L at_ k a (c + 4) o), CallTo g n 666 [.cell 4, .int 2] (CB N L at_ k a (c + 4) o) (.int v5) (CB N L at_ k a (c + 5) o)]) (by kernel_rfl) ⟨h3, h4, h5, trivial⟩
theorem t2 (h : decide (6 < v3 - 5) = cn) : Ex1G (xl g n) (b8 w 2) ⟨la w k d cs hi m zv f ++ lb false v4 v5 (v3 - 5), CB N L at_ k a c o⟩ .next ⟨la w k d cs hi m zv f ++ lb cn v4 v5 (effC cn hi v3 v4), CB N L at_ k a c o⟩ :=
  runS_ex (o := [.b cn]) (ps := [decide (6 < v3 - 5) = cn]) (by cases cn <;> kernel_rfl) ⟨h, trivial⟩
theorem t3 : Ex1G (xl g n) (b8 w 3) ⟨la w k d cs hi m zv f ++ lb cn v4 v5 (effC cn hi v3 v4), CB N L at_ k a c o⟩ .next ⟨la w k d cs hi m zv f ++ lb cn v4 v5 (effC cn hi v3 v4) ++ [((Str.ofString "much"), .int (effC cn hi v3 v4))], CB N L at_ k a c o⟩ :=
  runS_ex (o := []) (ps := []) (by cases cn <;> kernel_rfl) trivial
noncomputable def le8 (w : World) (k : Nat) (d : Nat → Int) (cs : List Int) (hi m : Nat) (zv : Int) (f : Nat) (cn up : Bool) (v4 v5 c : Int) : List (Str × PV) := la w k d cs hi m zv f ++ lb cn v4 v5 c ++ [((Str.ofString "much"), .int c), ((Str.ofString "scroll"), .glob (.ref (scF up)))]
theorem t4 {e : Int} (h : (v5 == 0) = up) : Ex1G (xl g n) (b8 w 4) ⟨la w k d cs hi m zv f ++ lb cn v4 v5 e ++ [((Str.ofString "much"), .int e)], CB N L at_ k a c o⟩ .next ⟨le8 w k d cs hi m zv f cn up v4 v5 e, CB N L at_ k a c o⟩ :=
  runS_ex (o := [.b up]) (ps := [(v5 == 0) = up]) (by cases up <;> kernel_rfl) ⟨h, trivial⟩
theorem t5 {e : Int} (h : (v5 == 0) = up) (hc : CallTo g n 678 (ar678 N (startOf (lsOf N L)) f (1 + zv) (ddOf up e) hi) (CB N L at_ k a c o) r (CB N L at_ k a c o)) : Ex1G (xl g n) (b8 w 5) ⟨le8 w k d cs hi m zv f cn up v4 v5 e, CB N L at_ k a c o⟩ .next ⟨le8 w k d cs hi m zv f cn up v4 v5 e ++ [((Str.ofString "due"), r)], CB N L at_ k a c o⟩ :=
  runS_ex (o := [.b up, .call r (CB N L at_ k a c o)]) (ps := [(v5 == 0) = up, CallTo g n 678 (ar678 N (startOf (lsOf N L)) f (1 + zv) (ddOf up e) hi) (CB N L at_ k a c o) r (CB N L at_ k a c o)]) (by cases up <;> kernel_rfl) ⟨h, hc, trivial⟩
noncomputable def cmpL (e : Expr) : Expr := match e with | .Compare l _ _ _ => l | _ => .Constant .none 0 default
noncomputable abbrev toldE (w : World) : Expr := cmpL (ifT (b8 w 6))
theorem t6 {e : Int} {st : AS} (hst : st = ⟨le8 w k d cs hi m zv f cn up v4 v5 e ++ [((Str.ofString "due"), r)], CB N L at_ k a c o⟩) (hr : (∃ s, r = .str s) ∨ ∃ A B, r = .tup [.int A, .int B]) (ht : EvG (xl g n) (toldE w) st r st) : Ex1G (xl g n) (b8 w 6) st .next ⟨la w k d cs hi m zv f, CB N L at_ k a c o⟩ := by
  subst hst
  let st : AS := ⟨le8 w k d cs hi m zv f cn up v4 v5 e ++ [((Str.ofString "due"), r)], CB N L at_ k a c o⟩
  refine Ex1G.post (l := la w k d cs hi m zv f ++ (lb cn v4 v5 e ++ [((Str.ofString "much"), .int e), ((Str.ofString "scroll"), .glob (.ref (scF up)))] ++ [((Str.ofString "due"), r)])) (runS_ex (o := [.cx r st, .ev (.bool false) st]) (ps := [EvG (xl g n) (toldE w) st r st, OpG (xl g n) (compareOp .NotEq) st r r (.bool false) st]) ?_ ⟨ht, fun ac hac => ?_, trivial⟩) locs_left
  · rcases hr with ⟨s, rfl⟩ | ⟨A, B, rfl⟩ <;> kernel_rfl
  · rcases hr with ⟨s, rfl⟩ | ⟨A, B, rfl⟩
    · exact Op_ne_str
    · exact Op_ne_tup
end
end

end
noncomputable section
noncomputable section
/-! the law: the second half of a lap -/
section
variable {w : World} {g : Gl w} {n k : Nat} {d a : Nat → Int} {c : Int} {N : Nat} {L : Nat → Nat} {cs : List Int} {hi f i m kk : Nat} {zv v6 ln X : Int} {at_ : MO} {o : Obj} {b : Bool}
/-- the law's variable at, before the laps and behind them -/
noncomputable def aM (m : Nat) : MO := match m with | 0 => .novar | _ => .var .anyi
noncomputable def lg (w : World) (k : Nat) (d : Nat → Int) (cs : List Int) (hi m : Nat) (zv : Int) (f : Nat) (ln row : Int) : List (Str × PV) := la w k d cs hi m zv f ++ [((Str.ofString "line"), .int ln), ((Str.ofString "row"), .int row)]
theorem t7 (h6 : CallTo g n 666 [.cell 4, .int 15] (CB N L (aM m) k a (c + 5) o) (.int v6) (CB N L (aM m) k a (c + 6) o)) (hl : CallTo g n 671 [startP N L, .int (1 + zv)] (CB N L (aM m) k a (c + 6) o) (.int i) (CB N L (aM m) k a (c + 6) o)) :
    Ex1G (xl g n) (b8 w 7) ⟨la w k d cs hi m zv f, CB N L (aM m) k a (c + 5) o⟩ .next ⟨la w k d cs hi m zv f ++ [((Str.ofString "line"), .int (v6 - 7))], CB N L (.var (.int i)) k a (c + 6) o⟩ :=
  runS_ex (o := [.call (.int v6) (CB N L (aM m) k a (c + 6) o), .call (.int i) (CB N L (aM m) k a (c + 6) o)]) (ps := [CallTo g n 666 [.cell 4, .int 15] (CB N L (aM m) k a (c + 5) o) (.int v6) (CB N L (aM m) k a (c + 6) o), CallTo g n 671 [startP N L, .int (1 + zv)] (CB N L (aM m) k a (c + 6) o) (.int i) (CB N L (aM m) k a (c + 6) o)])
    (by cases m <;> kernel_rfl) ⟨h6, hl, trivial⟩
noncomputable def rwA (b : Bool) (hi : Nat) (ln : Int) : Int := match b with | true => ln | false => (hi : Int) + ln
theorem t8 (h : decide (0 ≤ ln) = b) : Ex1G (xl g n) (b8 w 8) ⟨la w k d cs hi m zv f ++ [((Str.ofString "line"), .int ln)], CB N L at_ k a c o⟩ .next ⟨lg w k d cs hi m zv f ln (rwA b hi ln), CB N L at_ k a c o⟩ :=
  runS_ex (o := [.b b]) (ps := [decide (0 ≤ ln) = b]) (by cases b <;> kernel_rfl) ⟨h, trivial⟩
theorem t9 {e : Int} : Ex1G (xl g n) (b8 w 9) ⟨lg w k d cs hi m zv f ln e, CB N L at_ k a c o⟩ .next ⟨lg w k d cs hi m zv f ln (min (max e 0) ((hi : Int) - 1)), CB N L at_ k a c o⟩ :=
  runS_ex (o := []) (ps := []) (by kernel_rfl) trivial
theorem t10 {e : Int} (hc : CallTo g n 544 [paneP w cs hi, .int (1 + zv), .int ln] (CB N L (.var (.int i)) k a c o) (.int X) (CB N L (.var (.int i)) k a c o)) (h1 : 0 ≤ max ((i : Int) - e) 0 ∧ max ((i : Int) - e) 0 < N ∧ max ((i : Int) - e) 0 < 1000000) (hX : X = startOf (lsOf N L) (max ((i : Int) - e) 0).toNat) :
    Ex1G (xl g n) (b8 w 10) ⟨lg w k d cs hi m zv f ln e, CB N L (.var (.int i)) k a c o⟩ .next ⟨lg w k d cs hi m zv f ln e, CB N L (.var (.int i)) k a c o⟩ :=
  runS_ex (o := [.call (.int X) (CB N L (.var (.int i)) k a c o), .b false]) (ps := [CallTo g n 544 [paneP w cs hi, .int (1 + zv), .int ln] (CB N L (.var (.int i)) k a c o) (.int X) (CB N L (.var (.int i)) k a c o), 0 ≤ max ((i : Int) - e) 0 ∧ max ((i : Int) - e) 0 < N ∧ max ((i : Int) - e) 0 < 1000000, (X != startOf (lsOf N L) (max ((i : Int) - e) 0).toNat) = false])
    (by kernel_rfl) ⟨hc, h1, by rw [hX]; simp, trivial⟩
theorem t11 {e : Int} (hc : CallTo g n 544 [paneP w cs hi, .int (1 + zv), .none] (CB N L (.var (.int i)) k a c o) (.int X) (CB N L (.var (.int i)) k a c o)) (h1 : 0 ≤ max ((i : Int) - Int.fdiv hi 2) 0 ∧ max ((i : Int) - Int.fdiv hi 2) 0 < N ∧ max ((i : Int) - Int.fdiv hi 2) 0 < 1000000) (hX : X = startOf (lsOf N L) (max ((i : Int) - Int.fdiv hi 2) 0).toNat) :
    Ex1G (xl g n) (b8 w 11) ⟨lg w k d cs hi m zv f ln e, CB N L (.var (.int i)) k a c o⟩ .next ⟨lg w k d cs hi m zv f ln e, CB N L (.var (.int i)) k a c o⟩ :=
  runS_ex (o := [.call (.int X) (CB N L (.var (.int i)) k a c o), .b false]) (ps := [CallTo g n 544 [paneP w cs hi, .int (1 + zv), .none] (CB N L (.var (.int i)) k a c o) (.int X) (CB N L (.var (.int i)) k a c o), (2 : Int) ≠ 0, Builtin.divisionGoesByPylong (hi : Int) 2 = false, 0 ≤ max ((i : Int) - Int.fdiv hi 2) 0 ∧ max ((i : Int) - Int.fdiv hi 2) 0 < N ∧ max ((i : Int) - Int.fdiv hi 2) 0 < 1000000, (X != startOf (lsOf N L) (max ((i : Int) - Int.fdiv hi 2) 0).toNat) = false])
    (by kernel_rfl) ⟨hc, by decide, pylong_no, h1, by rw [hX]; simp, trivial⟩
noncomputable def shP (N : Nat) (L : Nat → Nat) (f kk : Nat) : PV := .seq kk fun j => .int (startOf (lsOf N L) (f + j))
theorem t12 {e : Int} (hN : N ≤ 9) (hf : f < N) (hk : min hi (N - f) = kk) : Ex1G (xl g n) (b8 w 12) ⟨lg w k d cs hi m zv f ln e, CB N L at_ k a c o⟩ .next ⟨lg w k d cs hi m zv f ln e ++ [((Str.ofString "shown"), shP N L f kk)], CB N L at_ k a c o⟩ := by
  let st : AS := ⟨lg w k d cs hi m zv f ln e, CB N L at_ k a c o⟩
  refine runS_ex (o := [.ev (shP N L f kk) st]) (ps := [EvG (xl g n) (asgV (b8 w 12)) st (shP N L f kk) st]) (by kernel_rfl) ⟨?_, trivial⟩
  exact EvG_slice (p := startP N L) (nm := (Str.ofString "line_starts")) (a := some (f : Int)) (b := some ((f : Int) + hi)) (k := N) (A := f) (B := min (f + hi) N) (f := fun j => .int (startOf (lsOf N L) j)) (by kernel_rfl) (fun vp => runE_ev (o := []) (ps := []) (by kernel_rfl) trivial) (.some (by kernel_rfl) (runE_ev (o := []) (ps := []) (by kernel_rfl) trivial)) (.some (by kernel_rfl) (runE_ev (o := []) (ps := []) (by kernel_rfl) trivial)) rfl (by omega)
    (by show clipAt N f = f; unfold clipAt; rw [if_neg (by omega)]; omega) (by show clipAt N ((f : Int) + hi) = min (f + hi) N; unfold clipAt; rw [if_neg (by omega)]; omega) (by omega) (fun j => rfl)
noncomputable def spA (b : Bool) (kk : Nat) (ln : Int) : Int := match b with | true => (kk : Int) + ln | false => ln
noncomputable def lh (w : World) (N : Nat) (L : Nat → Nat) (k : Nat) (d : Nat → Int) (cs : List Int) (hi m : Nat) (zv : Int) (f kk : Nat) (ln row sp : Int) : List (Str × PV) := lg w k d cs hi m zv f ln row ++ [((Str.ofString "shown"), shP N L f kk), ((Str.ofString "spot"), .int sp)]
theorem t13 {e : Int} (h : decide (ln < 0) = b) (hk : kk ≤ 1000) : Ex1G (xl g n) (b8 w 13) ⟨lg w k d cs hi m zv f ln e ++ [((Str.ofString "shown"), shP N L f kk)], CB N L at_ k a c o⟩ .next ⟨lh w N L k d cs hi m zv f kk ln e (spA b kk ln), CB N L at_ k a c o⟩ := by
  cases b with
  | true => exact runS_ex (o := [.b true]) (ps := [decide (ln < 0) = true, kk ≤ 1000]) (by kernel_rfl) ⟨h, hk, trivial⟩
  | false => exact runS_ex (o := [.b false]) (ps := [decide (ln < 0) = false]) (by kernel_rfl) ⟨h, trivial⟩
theorem t14 {e sp : Int} (hf : f < N) (hN : N ≤ 9) (hk : kk ≤ 1000) (hk0 : 1 ≤ kk) (hc : CallTo g n 587 [paneP w cs hi, .int (startOf (lsOf N L) f), .int ln] (CB N L at_ k a c o) (.int X) (CB N L at_ k a c o)) (hX : X = startOf (lsOf N L) (f + (min (max sp 0) ((kk : Int) - 1)).toNat)) :
    Ex1G (xl g n) (b8 w 14) ⟨lh w N L k d cs hi m zv f kk ln e sp, CB N L at_ k a c o⟩ .next ⟨lh w N L k d cs hi m zv f kk ln e sp, CB N L at_ k a c o⟩ :=
  runS_ex (o := [.call (.int X) (CB N L at_ k a c o), .b false]) (ps := [(0 : Int) ≤ f ∧ (f : Int) < N ∧ (f : Int) < 1000000, CallTo g n 587 [paneP w cs hi, .int (startOf (lsOf N L) f), .int ln] (CB N L at_ k a c o) (.int X) (CB N L at_ k a c o), kk ≤ 1000, 0 ≤ min (max sp 0) ((kk : Int) - 1) ∧ min (max sp 0) ((kk : Int) - 1) < kk ∧ min (max sp 0) ((kk : Int) - 1) < 1000000, (X != startOf (lsOf N L) (f + (min (max sp 0) ((kk : Int) - 1)).toNat)) = false])
    (by kernel_rfl) ⟨by omega, hc, hk, by omega, by rw [hX]; simp, trivial⟩
theorem t15 {e sp : Int} (hf : f < N) (hN : N ≤ 9) (hk : kk ≤ 1000) (hk0 : 1 ≤ kk) (hc : CallTo g n 587 [paneP w cs hi, .int (startOf (lsOf N L) f), .none] (CB N L at_ k a c o) (.int X) (CB N L at_ k a c o)) (hX : X = startOf (lsOf N L) (f + (Int.fdiv kk 2).toNat)) :
    Ex1G (xl g n) (b8 w 15) ⟨lh w N L k d cs hi m zv f kk ln e sp, CB N L at_ k a c o⟩ .next ⟨lh w N L k d cs hi m zv f kk ln e sp, CB N L at_ k a c o⟩ :=
  runS_ex (o := [.call (.int X) (CB N L at_ k a c o), .b false]) (ps := [(0 : Int) ≤ f ∧ (f : Int) < N ∧ (f : Int) < 1000000, CallTo g n 587 [paneP w cs hi, .int (startOf (lsOf N L) f), .none] (CB N L at_ k a c o) (.int X) (CB N L at_ k a c o), kk ≤ 1000, (2 : Int) ≠ 0, Builtin.divisionGoesByPylong (kk : Int) 2 = false, 0 ≤ Int.fdiv kk 2 ∧ Int.fdiv kk 2 < kk ∧ Int.fdiv kk 2 < 1000000, (X != startOf (lsOf N L) (f + (Int.fdiv kk 2).toNat)) = false])
    (by kernel_rfl) ⟨by omega, hc, hk, by decide, pylong_no, (by have : Int.fdiv (kk : Int) 2 = (kk : Int) / 2 := Int.fdiv_eq_ediv_of_nonneg _ (by decide); omega), by rw [hX]; simp, trivial⟩
end
end

end
noncomputable section
noncomputable section
/-! the law: the laps -/
section
variable {w : World} {x : Cx w} {st : AS} {s : List Stmt} {f : AF}
theorem ExsG_next {s1 : Stmt} {st1 st2 : AS} (h1 : Ex1G x s1 st .next st1) (h2 : ExsG x s st1 f st2) : ExsG x (s1 :: s) st f st2 := fun c hc => Exs_next (h1 c hc) (h2 c hc)
theorem ExsG_nil : ExsG x [] st .next st := fun c _ => Exs_nil
/-- a cell said otherwise -/
theorem ExsG.postC {st1 st2 : AS} {i : Nat} {mo mo' : MO} (h : ExsG x s st f st1) (e : st1.cells[i]? = some mo) (k : ∀ F ms o, IsM w F ms mo o → IsM w F ms mo' o) (e2 : { st1 with cells := st1.cells.set i mo' } = st2) : ExsG x s st f st2 := fun c hc W g tk R Q kQ =>
  h c hc W g tk R Q fun W' v h' tk' le R' i' => kQ W' v h' tk' le (e2 ▸ R'.cell e k) i'
end
/-- what is known of a law's numbers -/
structure LawOk (k N : Nat) (L : Nat → Nat) (hi : Nat) : Prop where
  k : k ≤ 63
  n1 : 1 ≤ N
  n9 : N ≤ 9
  l4 : ∀ j, L j < 4
  h1 : 1 ≤ hi
  h9 : hi ≤ 10
section
variable {w : World} {g : Gl w} {n k : Nat} {d a : Nat → Int} {c : Int} {N : Nat} {L : Nat → Nat} {hi f m : Nat} {o : Obj}
noncomputable def csL (N : Nat) (L : Nat → Nat) : List Int := csOf (lsOf N L)
theorem LawOk.text (H : LawOk k N L hi) : Text (csL N L) N (startOf (lsOf N L)) (fun i => (lsOf N L).getD i 0) := by
  have := text_of (ls := lsOf N L) (by rw [lsOf_len]; exact H.n1) (by rw [lsOf_len]; exact H.n9) (fun y hy => Nat.le_of_lt_succ (ls_lt H.l4 y hy))
  rw [lsOf_len] at this; exact this
theorem LawOk.short (H : LawOk k N L hi) : (csL N L).length ≤ 100 := by
  have h := full_short (N := N) (L := L) H.n9 H.l4 N
  rw [List.take_of_length_le (by rw [lsOf_len]; exact Nat.le_refl _)] at h
  unfold csL csOf
  rw [List.length_dropLast]; omega
theorem LawOk.lens (H : LawOk k N L hi) : ∀ i, i < N → (lsOf N L).getD i 0 ≤ 100 := fun i h => by
  rw [List.getD_eq_getElem?_getD, List.getElem?_eq_getElem (by rw [lsOf_len]; exact h)]
  have := ls_lt H.l4 _ (List.getElem_mem (l := lsOf N L) (n := i) (by rw [lsOf_len]; exact h))
  exact Nat.le_trans (Nat.le_of_lt this) (by decide)
theorem LawOk.fin (H : LawOk k N L hi) : startOf (lsOf N L) N = 1 + (csL N L).length + 1 := H.text.fin
noncomputable def tdS (w : World) (k : Nat) (d a : Nat → Int) (c : Int) (N : Nat) (L : Nat → Nat) (cs : List Int) (hi m : Nat) (zv : Int) (f : Nat) (cn up : Bool) (v4 v5 e : Int) (r : PV) (at_ : MO) (o : Obj) : AS := ⟨le8 w k d cs hi m zv f cn up v4 v5 e ++ [((Str.ofString "due"), r)], CB N L at_ k a c o⟩
theorem ev_told {cs : List Int} {zv v4 v5 e : Int} {cn up : Bool} {r : PV} {at_ : MO} (hf : f < N) (hN : N ≤ 9) (h : CallTo g n 685 (ar6 w cs hi up (startOf (lsOf N L) f) (1 + zv) v4 cn e) (CB N L at_ k a c o) r (CB N L at_ k a c o)) :
    EvG (xl g n) (toldE w) (tdS w k d a c N L cs hi m zv f cn up v4 v5 e r at_ o) r (tdS w k d a c N L cs hi m zv f cn up v4 v5 e r at_ o) :=
  runE_ev (o := [.call r (CB N L at_ k a c o)]) (ps := [(0 : Int) ≤ f ∧ (f : Int) < N ∧ (f : Int) < 1000000, CallTo g n 685 (ar6 w cs hi up (startOf (lsOf N L) f) (1 + zv) v4 cn e) (CB N L at_ k a c o) r (CB N L at_ k a c o)]) (by cases cn <;> cases up <;> kernel_rfl) ⟨by omega, h, trivial⟩
theorem ev_toldx {cs : List Int} {zv v4 v5 e : Int} {cn up : Bool} {s : Str} {at_ : MO} (hf : f < N) (hN : N ≤ 9) (nc : NCL (ar6 w cs hi up (startOf (lsOf N L) f) (1 + zv) v4 cn e)) (h : ToldX g n (ar6 w cs hi up (startOf (lsOf N L) f) (1 + zv) v4 cn e) s) :
    EvG (xl g n) (toldE w) (tdS w k d a c N L cs hi m zv f cn up v4 v5 e (.str s) at_ o) (.str s) (tdS w k d a c N L cs hi m zv f cn up v4 v5 e (.str s) at_ o) :=
  have ha : EvLG (xl g n) (callA (toldE w)) (tdS w k d a c N L cs hi m zv f cn up v4 v5 e (.str s) at_ o) (ar6 w cs hi up (startOf (lsOf N L) f) (1 + zv) v4 cn e) (tdS w k d a c N L cs hi m zv f cn up v4 v5 e (.str s) at_ o) :=
    runL_evs (o := []) (ps := [(0 : Int) ≤ f ∧ (f : Int) < N ∧ (f : Int) < 1000000]) (by cases cn <;> cases up <;> kernel_rfl) ⟨by omega, trivial⟩
  have hf1 : ∀ xp, EvG (xl g n) (.Name (Str.ofString "_law_told") xp) (tdS w k d a c N L cs hi m zv f cn up v4 v5 e (.str s) at_ o) (.glob (.ref 685)) (tdS w k d a c N L cs hi m zv f cn up v4 v5 e (.str s) at_ o) := fun xp => runE_ev (o := []) (ps := []) (by kernel_rfl) trivial
  have h1 : (callC (toldE w)).map (·.1) = some ((Str.ofString "_law_told"), callA (toldE w)) := by kernel_rfl
  have h2 : (!(callA (toldE w)).isEmpty && (callA (toldE w)).all notStar) = true := by kernel_rfl
  by
    generalize toldE w = E at ha h1 h2
    exact EvG_told (x := xl g n) (e := E) (nm := (Str.ofString "_law_told")) rfl h1 h2 hf1 ha nc h
theorem nc_ar5 {cs : List Int} {z kp e p : Int} {cn : Bool} : NCL (ar5 w cs hi p z kp cn e) := NCL.cons nc_pane (NCL.cons .int (NCL.cons .int (NCL.cons (by cases cn with | true => exact .none | false => exact .int) (NCL.cons .int NCL.nil))))
theorem nc_ar6 {cs : List Int} {z kp e p : Int} {cn up : Bool} : NCL (ar6 w cs hi up p z kp cn e) := NCL.cons .glob nc_ar5
theorem lineOn_sub {N i : Nat} {r : Int} (h : i < N) (h0 : 0 ≤ r) : lineOn N i (0 - r) = (max ((i : Int) - r) 0).toNat := by unfold lineOn; omega
theorem rowOf_up {hi : Nat} {q : Int} (h0 : 0 ≤ q) (h1 : q ≤ (hi : Int) - 1) : rowOf hi q = q := by unfold rowOf; rw [if_neg (Int.not_lt.mpr h0)]; omega
theorem lineOn_row {N i hi : Nat} {q : Int} (h : i < N) (h0 : 0 ≤ q) (h1 : q ≤ (hi : Int) - 1) : lineOn N i (0 - rowOf hi q) = (max ((i : Int) - q) 0).toNat := by rw [rowOf_up h0 h1]; exact lineOn_sub h h0
theorem lineOn_last {N i hi : Nat} (h : i < N) (h1 : 1 ≤ hi) : lineOn N i (0 - rowOf hi (-1)) = (max ((i : Int) - ((hi : Int) - 1)) 0).toNat := by
  rw [show rowOf hi (-1) = (hi : Int) - 1 by unfold rowOf; rw [if_pos (by decide)]; omega]; exact lineOn_sub h (by omega)
theorem half_le {hi : Nat} (h : 1 ≤ hi) : 0 ≤ Int.fdiv (hi : Int) 2 ∧ Int.fdiv (hi : Int) 2 ≤ (hi : Int) - 1 := by
  have e : Int.fdiv (hi : Int) 2 = (hi : Int) / 2 := Int.fdiv_eq_ediv_of_nonneg _ (by decide)
  omega
set_option maxHeartbeats 4000000 in
theorem lap (H : LawOk k N L hi) (h0 : 0 ≤ c) (hc : c ≤ 900) : ExsG (xl g (n + 22)) (whB (stAt (KK w) 690 8)) ⟨l7 w k d (csL N L) hi ++ [((Str.ofString "lap"), .int m)], CB N L (aM m) k a c o⟩ .next ⟨l7 w k d (csL N L) hi, CB N L (aM (m + 1)) k a (c + 6) o⟩ := by
  have hT := H.text
  have hcs := H.short
  have hD := H.lens
  have hfin := H.fin
  have hk := H.k
  have hn1 := H.n1
  have hn9 := H.n9
  have hh1 := H.h1
  have hh9 := H.h9
  generalize csL N L = cs at hT hcs hfin ⊢
  -- the draws
  have f0 := drawV_lo (k := k) (d := a) (c := c + 1) (many := (N : Int)) (by omega)
  have f1 := drawV_hi (k := k) (d := a) (c := c + 1) (many := (N : Int)) (by omega)
  have z0 := drawV_lo (k := k) (d := a) (c := c + 2) (many := (cs.length : Int) + 1) (by omega)
  have z1 := drawV_hi (k := k) (d := a) (c := c + 2) (many := (cs.length : Int) + 1) (by omega)
  have df := fun at_ => drawB (g := g) (n := n + 21) (N := N) (L := L) (at_ := at_) (a := a) (o := o) (c := c) (many := (N : Int)) hk h0 (by omega) (by omega) rfl
  have dz := fun at_ => drawB (g := g) (n := n + 21) (N := N) (L := L) (at_ := at_) (a := a) (o := o) (c := c + 1) (c' := c + 2) (many := (cs.length : Int) + 1) hk (by omega) (by omega) (by omega) (by omega)
  have d3 := fun at_ => drawB (g := g) (n := n + 21) (N := N) (L := L) (at_ := at_) (a := a) (o := o) (c := c + 2) (c' := c + 3) (many := 15) hk (by omega) (by omega) (by decide) (by omega)
  have d4 := fun at_ => drawB (g := g) (n := n + 21) (N := N) (L := L) (at_ := at_) (a := a) (o := o) (c := c + 3) (c' := c + 4) (many := 4) hk (by omega) (by omega) (by decide) (by omega)
  have d5 := fun at_ => drawB (g := g) (n := n + 21) (N := N) (L := L) (at_ := at_) (a := a) (o := o) (c := c + 4) (c' := c + 5) (many := 2) hk (by omega) (by omega) (by decide) (by omega)
  have d6 := fun at_ => drawB (g := g) (n := n + 21) (N := N) (L := L) (at_ := at_) (a := a) (o := o) (c := c + 5) (c' := c + 6) (many := 15) hk (by omega) (by omega) (by decide) (by omega)
  obtain ⟨f, hf⟩ := Int.eq_ofNat_of_zero_le f0
  rw [hf] at df f1
  have hfN : f < N := by omega
  generalize drawV k a (c + 2) ((cs.length : Int) + 1) = zv at dz z0 z1
  generalize drawV k a (c + 3) 15 = v3 at d3
  generalize drawV k a (c + 4) 4 = v4 at d4
  generalize drawV k a (c + 5) 2 = v5 at d5
  generalize drawV k a (c + 6) 15 = v6 at d6
  obtain ⟨i, hi', hl1, hl2⟩ := hT.line (z := 1 + zv) (by omega) (by rw [hfin]; omega)
  obtain ⟨cn, hcn⟩ : ∃ b, decide (6 < v3 - 5) = b := ⟨_, rfl⟩
  obtain ⟨up, hup⟩ : ∃ b, (v5 == 0) = b := ⟨_, rfl⟩
  obtain ⟨r, hr, S⟩ := same (g := g) (n := n) (w := w) (up := up) (cn := cn) (c := effC cn hi v3 v4) (kp := v4) hcs hT hD hfN hl1 hl2 hi' hh1 (by omega) (by rw [hfin]; omega) (fun e => by rw [e]; rfl)
  obtain ⟨kk, hkk⟩ : ∃ b, min hi (N - f) = b := ⟨_, rfl⟩
  obtain ⟨b1, hb1⟩ : ∃ b, decide (0 ≤ v6 - 7) = b := ⟨_, rfl⟩
  obtain ⟨b2, hb2⟩ : ∃ b, decide (v6 - 7 < 0) = b := ⟨_, rfl⟩
  have hfd : Int.fdiv (hi : Int) 2 = (hi : Int) / 2 := Int.fdiv_eq_ediv_of_nonneg _ (by decide)
  have kfd : Int.fdiv (kk : Int) 2 = (kk : Int) / 2 := Int.fdiv_eq_ediv_of_nonneg _ (by decide)
  have row1 : min (max (rwA b1 hi (v6 - 7)) 0) ((hi : Int) - 1) = rowOf hi (v6 - 7) := by
    unfold rowOf rwA
    cases b1 with
    | true => rw [if_neg (by have := of_decide_eq_true hb1; omega)]
    | false => rw [if_pos (by have := of_decide_eq_false hb1; omega)]
  have row0 : 0 ≤ rowOf hi (v6 - 7) := by unfold rowOf; omega
  have tE : EvG (xl g (n + 22)) (toldE w) (tdS w k d a (c + 5) N L cs hi m zv f cn up v4 v5 (effC cn hi v3 v4) r (aM m) o) r (tdS w k d a (c + 5) N L cs hi m zv f cn up v4 v5 (effC cn hi v3 v4) r (aM m) o) := by
    rcases S.told with h | ⟨s, rfl, h⟩
    · exact ev_told hfN hn9 (h.frame nc_ar6)
    · exact ev_toldx hfN hn9 nc_ar6 h
  rw [body8]
  refine ExsG.postC (i := 1) (mo := .var (.int (i : Nat))) (mo' := .var .anyi) (st1 := ⟨l7 w k d cs hi, CB N L (.var (.int i)) k a (c + 6) o⟩) (ExsG.post (l := lh w N L k d cs hi m zv f kk (v6 - 7) (rowOf hi (v6 - 7)) (spA b2 kk (v6 - 7))) ?_
    fun y r e => ⟨r, lk_left (l' := [((Str.ofString "lap"), .int m), ((Str.ofString "place"), .int (1 + zv)), ((Str.ofString "first"), .int f), ((Str.ofString "line"), .int (v6 - 7)), ((Str.ofString "row"), .int (rowOf hi (v6 - 7))), ((Str.ofString "shown"), shP N L f kk), ((Str.ofString "spot"), .int (spA b2 kk (v6 - 7)))]) e, .inl rfl⟩) rfl (fun F ms o im => by
      cases im with | var e i => exact .var e (int_any F ms _ i)) rfl
  refine ExsG_next (t0 (by omega) (by omega) (df _) (dz _)) ?_
  refine ExsG_next (t1 (d3 _) (d4 _) (d5 _)) ?_
  refine ExsG_next (t2 hcn) ?_
  refine ExsG_next t3 ?_
  refine ExsG_next (t4 hup) ?_
  refine ExsG_next (t5 hup (S.due.frame (NCL.cons (.seq fun _ => .int) (NCL.cons .int (NCL.cons .int (NCL.cons .int (NCL.cons .int NCL.nil))))))) ?_
  refine ExsG_next (t6 rfl hr tE) ?_
  refine ExsG_next (t7 (i := i) (d6 _) (((a_line_of (n := n + 21) hT hl1 hl2 hi').frame (NCL.cons (.seq fun _ => .int) (NCL.cons .int NCL.nil))))) ?_
  refine ExsG_next (t8 hb1) ?_
  refine ExsG_next t9 ?_
  rw [row1]
  refine ExsG_next (t10 (((a_recenter (n := n + 2) hcs hT hi' hl1 hl2).frame (NCL.cons nc_pane (NCL.cons .int (NCL.cons .int NCL.nil))))) (by omega) (congrArg _ (lineOn_sub hi' row0))) ?_
  refine ExsG_next (t11 (((a_recenter_none (n := n + 2) hcs hT hi' hl1 hl2 (by omega)).frame (NCL.cons nc_pane (NCL.cons .int (NCL.cons .none NCL.nil))))) (by omega) (congrArg _ (lineOn_row hi' (half_le hh1).1 (half_le hh1).2))) ?_
  refine ExsG_next (t12 hn9 hfN hkk) ?_
  refine ExsG_next (t13 hb2 (by omega)) ?_
  refine ExsG_next (t14 hfN hn9 (by omega) (by omega) (((a_line_to (n := n + 4) hcs hT hfN hkk hh1).frame (NCL.cons nc_pane (NCL.cons .int (NCL.cons .int NCL.nil))))) (congrArg (fun q : Int => startOf (lsOf N L) (f + q.toNat)) (by
        unfold rowOf spA
        cases b2 with
        | true => rw [if_pos (of_decide_eq_true hb2)]
        | false => rw [if_neg (of_decide_eq_false hb2)]))) ?_
  exact ExsG_next (t15 hfN hn9 (by omega) (by omega) (((a_line_to_none (n := n + 4) hcs hT hfN hkk hh1).frame (NCL.cons nc_pane (NCL.cons .int (NCL.cons .none NCL.nil))))) (congrArg (fun q : Int => startOf (lsOf N L) (f + q.toNat)) (by unfold rowOf; rw [kfd, if_neg (by omega)]; omega))) ExsG_nil
end
end

end
noncomputable section
noncomputable section
/-! the law: its pane, its laps, its turns -/
section
variable {w : World} {g : Gl w} {n k : Nat} {d a : Nat → Int} {c : Int} {N : Nat} {L : Nat → Nat} {hi i m : Nat} {v zv : Int} {cs : List Int}
noncomputable def C8 (N : Nat) (L : Nat → Nat) (at_ : MO) (k : Nat) (a : Nat → Int) (c : Int) : List MO := C5 (.var (startP N L)) at_ (.var (lenP N L)) k a c
theorem s6 (h : CallTo g n 666 [.cell 4, .int 4] (C8 N L .novar k a c) (.int v) (C8 N L .novar k a (c + 1))) (hv : 2 + v = (hi : Int)) : Ex1G (xl g n) (stAt (KK w) 690 6) ⟨lc k d (codeP cs), C8 N L .novar k a c⟩ .next ⟨lc k d (codeP cs) ++ [((Str.ofString "high"), .int hi)], C8 N L .novar k a (c + 1)⟩ :=
  hv ▸ runS_ex (o := [.call (.int v) (C8 N L .novar k a (c + 1))]) (ps := [CallTo g n 666 [.cell 4, .int 4] (C8 N L .novar k a c) (.int v) (C8 N L .novar k a (c + 1))]) (by kernel_rfl) ⟨h, trivial⟩
theorem s7 : Ex1G (xl g (n + 4)) (stAt (KK w) 690 7) ⟨lc k d (codeP cs) ++ [((Str.ofString "high"), .int hi)], C8 N L .novar k a c⟩ .next ⟨l7 w k d cs hi, C8 N L .novar k a c⟩ := by
  let C : List MO := C8 N L .novar k a c
  exact runS_ex (o := [.call (viewP cs) C, .call (tableP w) C, .call optsP C, .call rulesP C, .call (paneP w cs hi) C])
    (ps := [CallTo g (n + 4) 158 [codeP cs] C (viewP cs) C, CallTo g (n + 4) 655 [] C (tableP w) C, CallTo g (n + 4) 59 [] C optsP C, CallTo g (n + 4) 461 [] C rulesP C, CallTo g (n + 4) 496 [viewP cs, tableP w, .int hi, .int 12, optsP, rulesP] C (paneP w cs hi) C]) (by kernel_rfl)
    ⟨(a_view_new (n := n + 2)).frame (NCL.cons (.seq fun _ => .int) NCL.nil), a_table.frame NCL.nil, (a_opts_new (n := n + 2)).frame NCL.nil, (a_rules_new (n := n + 2)).frame NCL.nil, (a_pane_new (n := n + 2)).frame (NCL.cons nc_view (NCL.cons nc_table (NCL.cons .int (NCL.cons .int (NCL.cons nc_opts (NCL.cons nc_rules NCL.nil)))))), trivial⟩
theorem nb_l7 {K : Nat} (h : 4 ≤ K) : ∀ e ∈ l7 w k d cs hi, NB K e.2 := fun e he => by
  rcases List.mem_append.mp he with he | he
  · exact nb_lc h e he
  · exact all_cons (P := fun e : Str × PV => NB K e.2) .int (all_cons (P := fun e : Str × PV => NB K e.2) (NB.up (Nat.zero_le _) nc_pane) all_nil) e he
theorem nb_aM {K : Nat} : NBM K (aM m) := by cases m with | zero => exact .novar | succ m => exact .var .anyi
noncomputable def lpS (w : World) (N : Nat) (L : Nat → Nat) (k : Nat) (d a : Nat → Int) (c : Int) (hi m : Nat) : AS := ⟨l7 w k d (csL N L) hi, C8 N L (aM m) k a (c + 6 * (m : Nat))⟩
theorem s8 (H : LawOk k N L hi) (h0 : 0 ≤ c) (hc : c ≤ 800) : Ex1G (xl g (n + 22)) (stAt (KK w) 690 8) ⟨l7 w k d (csL N L) hi, C8 N L .novar k a c⟩ .next ⟨l7 w k d (csL N L) hi, C8 N L (.var .anyi) k a (c + 18)⟩ := by
  refine Ex1G_range (nm := (Str.ofString "lap")) (z := 3) (n := 3) (st1 := ⟨l7 w k d (csL N L) hi, C8 N L .novar k a c⟩) (S := lpS w N L k d a c hi) (stop := 3) (by kernel_rfl) (runE_ev (o := []) (ps := []) (by kernel_rfl) trivial) rfl (by decide) (by decide) (by kernel_rfl) (fun c' W h m cs R => by
    show RepX c' W ⟨_, C8 N L .novar k a (c + 6 * ((0 : Nat) : Int))⟩ h m cs
    rw [show c + 6 * ((0 : Nat) : Int) = c by omega]; exact R) fun ac hac => ⟨fun i _ => ⟨nb_l7 (Nat.le_of_ble_eq_true rfl), nb_C5 (.var (.seq fun _ => .int)) nb_aM (.var (.seq fun _ => .int)) (Nat.le_refl _)⟩, fun i _ => rfl, fun i q os ho hi' hq => ?_, .inl ⟨rfl, rfl, by
    show (⟨_, C8 N L (.var .anyi) k a (c + 18)⟩ : AS) = ⟨_, C8 N L (.var .anyi) k a (c + 6 * ((3 : Nat) : Int))⟩
    rw [show c + 6 * ((3 : Nat) : Int) = c + 18 by omega]⟩⟩
  obtain ⟨h1, h2⟩ := ho
  rcases os with _ | ⟨o1, _ | ⟨o2, os⟩⟩ <;> try (simp at h1; done)
  obtain ⟨o, rfl⟩ := h2 _ (.head _)
  rw [itsE_sq hq]
  have := lap (w := w) (g := g) (n := n) (d := d) (a := a) (m := i) (o := o) (c := c + 6 * (i : Nat)) H (by omega) (by omega) ac hac
  rw [show c + 6 * ((i : Nat) : Int) + 6 = c + 6 * ((i + 1 : Nat) : Int) by omega] at this
  exact this
theorem s9 (h : CallTo g n 666 [.cell 4, .int ((cs.length : Nat) + 1)] (C8 N L (.var .anyi) k a c) (.int v) (C8 N L (.var .anyi) k a (c + 1))) (hl : cs.length ≤ 1000) (hz : 1 + v = zv) : Ex1G (xl g n) (stAt (KK w) 690 9) ⟨l7 w k d cs hi, C8 N L (.var .anyi) k a c⟩ .next ⟨l7 w k d cs hi ++ [((Str.ofString "place"), .int zv)], C8 N L (.var .anyi) k a (c + 1)⟩ :=
  hz ▸ runS_ex (o := [.call (.int v) (C8 N L (.var .anyi) k a (c + 1))]) (ps := [cs.length ≤ 1000, CallTo g n 666 [.cell 4, .int ((cs.length : Nat) + 1)] (C8 N L (.var .anyi) k a c) (.int v) (C8 N L (.var .anyi) k a (c + 1))]) (by kernel_rfl) ⟨hl, h, trivial⟩
/-- behind the laps -/
noncomputable def l9 (w : World) (k : Nat) (d : Nat → Int) (cs : List Int) (hi : Nat) (zv : Int) : List (Str × PV) := l7 w k d cs hi ++ [((Str.ofString "place"), .int zv), ((Str.ofString "turns"), .mob 576 5), ((Str.ofString "found"), .cell 6)]
noncomputable def CT (N : Nat) (L : Nat → Nat) (i k : Nat) (a : Nat → Int) (c t : Int) (l : List PV) : List MO := C8 N L (.var (.int i)) k a c ++ [turnsD t, .list l]
theorem s10 (hl : CallTo g n 671 [startP N L, .int zv] (C8 N L (.var .anyi) k a c) (.int i) (C8 N L (.var .anyi) k a c)) (ht : CallTo g n 576 [] (C8 N L (.var .anyi) k a c) (.mob 576 5) (C8 N L (.var .anyi) k a c ++ [turnsD 0])) :
    Ex1G (xl g n) (stAt (KK w) 690 10) ⟨l7 w k d cs hi ++ [((Str.ofString "place"), .int zv)], C8 N L (.var .anyi) k a c⟩ .next ⟨l9 w k d cs hi zv, CT N L i k a c 0 []⟩ :=
  runS_ex (o := [.call (.int i) (C8 N L (.var .anyi) k a c), .call (.mob 576 5) (C8 N L (.var .anyi) k a c ++ [turnsD 0])]) (ps := [CallTo g n 671 [startP N L, .int zv] (C8 N L (.var .anyi) k a c) (.int i) (C8 N L (.var .anyi) k a c), CallTo g n 576 [] (C8 N L (.var .anyi) k a c) (.mob 576 5) (C8 N L (.var .anyi) k a c ++ [turnsD 0])]) (by kernel_rfl) ⟨hl, ht, trivial⟩
end
end

end
noncomputable section
noncomputable section
/-! the law: its turns, its answer -/
section
variable {w : World} {g : Gl w} {n k : Nat} {d a : Nat → Int} {c : Int} {N : Nat} {L : Nat → Nat} {hi i m : Nat} {zv : Int} {cs : List Int} {P : Nat → Int} {D : Nat → Nat}
/-- the line that a turn means -/
noncomputable def rr (hi : Nat) : Nat → Int | 0 => Int.fdiv hi 2 | 1 => 0 | 2 => -1 | _ => Int.fdiv hi 2
noncomputable def XX (P : Nat → Int) (N hi i : Nat) (j : Nat) : Int := P (lineOn N i (0 - rowOf hi (rr hi j)))
noncomputable def fl (X : Nat → Int) : Nat → List PV
  | 0 => [] | 1 => [.int (X 0)] | 2 => [.int (X 0), .int (X 1)] | 3 => [.int (X 0), .int (X 1), .int (X 2)] | 4 => [.int (X 0), .int (X 1), .int (X 2), .int (X 3)] | _ => [.int (X 0), .int (X 1), .int (X 2), .int (X 3), .int (X 4)]
noncomputable def tt : Nat → Int | 0 => 0 | 1 => 1 | 2 => 2 | 3 => 0 | _ => 1
theorem nb_fl {X : Nat → Int} {K : Nat} : ∀ p ∈ fl X m, NB K p := by
  rcases m with _ | _ | _ | _ | _ | m <;> unfold fl <;> (repeat (first | exact all_nil | refine all_cons .int ?_))
theorem nc_turns {t : Int} : NBM 0 (turnsD t) := .dict (all_cons (P := fun x : Str × PV => NB 0 x.2) .int (all_cons (P := fun x : Str × PV => NB 0 x.2) .int all_nil))
theorem turn_at {t t' : Int} {X : Int} {l : List PV} {rest : List MO} (h : CallTo g n 573 [.mob 576 0, paneP w cs hi, .int zv] [turnsD t] (.int X) [turnsD t']) : CallTo g n 573 [.mob 576 5, paneP w cs hi, .int zv] (CT N L i k a c t l ++ rest) (.int X) (CT N L i k a c t' l ++ rest) :=
  h.subM (.inr ⟨576, rfl, rfl⟩) rfl nc_turns nc_turns .int (NCL.cons nc_pane (NCL.cons .int NCL.nil)) rfl
theorem a_turn (hc : cs.length ≤ 100) (hT : Text cs N P D) (hi' : i < N) (h1 : P i ≤ zv) (h2 : zv < P (i + 1)) (hh : hi < 1000) : ∀ m, m < 4 → CallTo g (n + 21) 573 [.mob 576 0, paneP w cs hi, .int zv] [turnsD (tt m)] (.int (XX P N hi i m)) [turnsD (tt (m + 1))] := fun m hm => by
  rcases m with _ | _ | _ | _ | m
  · exact a_turn0 hc hT hi' h1 h2 hh
  · exact a_turn1 hc hT hi' h1 h2
  · exact a_turn2 hc hT hi' h1 h2
  · exact a_turn0 hc hT hi' h1 h2 hh
  · omega
theorem nb_l9 {K : Nat} (h : 7 ≤ K) : ∀ e ∈ l9 w k d cs hi zv, NB K e.2 := fun e he => by
  rcases List.mem_append.mp he with he | he
  · exact nb_l7 (by omega) e he
  · exact all_cons (P := fun e : Str × PV => NB K e.2) .int (all_cons (P := fun e : Str × PV => NB K e.2) (.mob (by omega)) (all_cons (P := fun e : Str × PV => NB K e.2) (.cell (by omega)) all_nil)) e he
theorem nb_CT {K : Nat} {t : Int} {l : List PV} (h : 7 ≤ K) (hl : ∀ p ∈ l, NB K p) : ∀ mo ∈ CT N L i k a c t l, NBM K mo := fun mo hm => by
  rcases List.mem_append.mp hm with hm | hm
  · exact nb_C5 (.var (.seq fun _ => .int)) (.var .int) (.var (.seq fun _ => .int)) (by omega) mo hm
  · exact all_cons (nc_turns.up (Nat.zero_le _)) (all_cons (.list hl) all_nil) mo hm
noncomputable def tS (w : World) (k : Nat) (d a : Nat → Int) (c : Int) (N : Nat) (L : Nat → Nat) (cs : List Int) (hi i : Nat) (zv : Int) (X : Nat → Int) (m : Nat) : AS := ⟨l9 w k d cs hi zv, CT N L i k a c (tt m) (fl X m)⟩
theorem s11 {X : Nat → Int} (h : ∀ m, m < 4 → CallTo g n 573 [.mob 576 0, paneP w cs hi, .int zv] [turnsD (tt m)] (.int (X m)) [turnsD (tt (m + 1))]) : Ex1G (xl g n) (stAt (KK w) 690 11) (tS w k d a c N L cs hi i zv X 0) .next (tS w k d a c N L cs hi i zv X 4) := by
  refine Ex1G_range (nm := (Str.ofString "lap")) (z := 4) (n := 4) (st1 := tS w k d a c N L cs hi i zv X 0) (S := tS w k d a c N L cs hi i zv X) (stop := 4) (by kernel_rfl) (runE_ev (o := []) (ps := []) (by kernel_rfl) trivial) rfl (by decide) (by decide) (by kernel_rfl) (fun c' W h m cs R => R) fun ac hac => ⟨fun i _ => ⟨nb_l9 (Nat.le_of_ble_eq_true rfl), nb_CT (Nat.le_of_ble_eq_true rfl) nb_fl⟩, fun i _ => rfl, fun m q os ho hm hq => ?_, .inl ⟨rfl, rfl, rfl⟩⟩
  obtain ⟨h1, h2⟩ := ho
  rcases os with _ | ⟨o1, _ | ⟨o2, os⟩⟩ <;> try (simp at h1; done)
  obtain ⟨o, rfl⟩ := h2 _ (.head _)
  rw [itsE_sq hq]
  have run : runB (xl g n) (whB (stAt (KK w) 690 11)) ⟨l9 w k d cs hi zv ++ [((Str.ofString "lap"), .int m)], CT N L i k a c (tt m) (fl X m) ++ [.raw o]⟩ [.call (.int (X m)) (CT N L i k a c (tt (m + 1)) (fl X m) ++ [.raw o])] = some (.next, ⟨l9 w k d cs hi zv ++ [((Str.ofString "lap"), .int m)], CT N L i k a c (tt (m + 1)) (fl X (m + 1)) ++ [.raw o]⟩, [CallTo g n 573 [.mob 576 5, paneP w cs hi, .int zv] (CT N L i k a c (tt m) (fl X m) ++ [.raw o]) (.int (X m)) (CT N L i k a c (tt (m + 1)) (fl X m) ++ [.raw o])]) := by
    rcases m with _ | _ | _ | _ | m
    · kernel_rfl
    · kernel_rfl
    · kernel_rfl
    · kernel_rfl
    · have : m + 1 + 1 + 1 + 1 < 4 := hm
      omega
  exact (runB_exs run ⟨turn_at (h m hm), trivial⟩).post locs_left ac hac
theorem s12 {X : Nat → Int} (h : CallTo g n 566 [.mob 576 0] [turnsD 1] .none [turnsD 0]) : Ex1G (xl g n) (stAt (KK w) 690 12) (tS w k d a c N L cs hi i zv X 4) .next ⟨l9 w k d cs hi zv, CT N L i k a c 0 (fl X 4)⟩ :=
  runS_ex (o := [.call .none (CT N L i k a c 0 (fl X 4))]) (ps := [CallTo g n 566 [.mob 576 5] (CT N L i k a c 1 (fl X 4)) .none (CT N L i k a c 0 (fl X 4))]) (by kernel_rfl) ⟨h.subM (.inr ⟨576, rfl, rfl⟩) rfl nc_turns nc_turns .none NCL.nil rfl, trivial⟩
theorem s13 {X : Nat → Int} (h : CallTo g n 573 [.mob 576 0, paneP w cs hi, .int zv] [turnsD 0] (.int (X 4)) [turnsD 1]) : Ex1G (xl g n) (stAt (KK w) 690 13) ⟨l9 w k d cs hi zv, CT N L i k a c 0 (fl X 4)⟩ .next ⟨l9 w k d cs hi zv, CT N L i k a c 1 (fl X 5)⟩ :=
  runS_ex (o := [.call (.int (X 4)) (CT N L i k a c 1 (fl X 4))]) (ps := [CallTo g n 573 [.mob 576 5, paneP w cs hi, .int zv] (CT N L i k a c 0 (fl X 4)) (.int (X 4)) (CT N L i k a c 1 (fl X 4))]) (by kernel_rfl) ⟨by
    have := turn_at (N := N) (L := L) (i := i) (k := k) (a := a) (c := c) (l := fl X 4) (rest := []) h
    rwa [List.append_nil, List.append_nil] at this, trivial⟩
/-- the rows of the turns -/
noncomputable def rw5 (hi : Nat) : Nat → Int | 0 => Int.fdiv hi 2 | 1 => 0 | 2 => (hi : Int) - 1 | _ => Int.fdiv hi 2
noncomputable def rwL (hi : Nat) : List PV := [.int (Int.fdiv hi 2), .int 0, .int ((hi : Int) - 1), .int (Int.fdiv hi 2), .int (Int.fdiv hi 2)]
theorem rwL_at {j : Nat} {q : PV} (e : (Its.li (rwL hi)).at? j = some q) : q = .int (rw5 hi j) := by
  have e : (rwL hi)[j]? = some q := e
  rcases j with _ | _ | _ | _ | _ | j
  · cases e; rfl
  · cases e; rfl
  · cases e; rfl
  · cases e; rfl
  · cases e; rfl
  · exact (nil_get (i := j) e).elim
noncomputable def retV (s : Stmt) : Expr := match s with | .Return (some e) _ => e | _ => .Constant .none 0 default
noncomputable def cmpR (e : Expr) : Expr := match e with | .Compare _ _ [r] _ => r | _ => .Constant .none 0 default
noncomputable abbrev e14 (w : World) : Expr := cmpR (retV (stAt (KK w) 690 14))
theorem fl_at {X : Nat → Int} {j : Nat} {u : PV} (e : (Its.li (fl X 5)).at? j = some u) : u = .int (X j) := by
  have e : (fl X 5)[j]? = some u := e
  rcases j with _ | _ | _ | _ | _ | j
  · cases e; rfl
  · cases e; rfl
  · cases e; rfl
  · cases e; rfl
  · cases e; rfl
  · exact (nil_get (i := j) e).elim
theorem s14 {X : Nat → Int} {t : Int} (hN : N ≤ 9) (hr : ∀ j, 0 ≤ rw5 hi j) (hi' : i < N) (hX : ∀ j, X j = startOf (lsOf N L) (max ((i : Int) - rw5 hi j) 0).toNat) : Ex1G (xl g n) (stAt (KK w) 690 14) ⟨l9 w k d cs hi zv, CT N L i k a c t (fl X 5)⟩ (.ret (.bool true)) ⟨l9 w k d cs hi zv, CT N L i k a c t (fl X 5)⟩ := by
  let st : AS := ⟨l9 w k d cs hi zv, CT N L i k a c t (fl X 5)⟩
  let G : Nat → Int := fun j => startOf (lsOf N L) (max ((i : Int) - rw5 hi j) 0).toNat
  refine runS_ex (o := [.ev (intsP 5 G) st, .ev (.bool true) st]) (ps := [EvG (xl g n) (e14 w) st (intsP 5 G) st, OpG (xl g n) (compareOp .Eq) st (.cell 6) (intsP 5 G) (.bool true) st]) (by kernel_rfl) ⟨?_, fun ac hac => ?_, trivial⟩
  · refine EvG_ints (nm := (Str.ofString "row")) (K := 7) (p := .tup (rwL hi)) (Cs := fun _ => CT N L i k a c t (fl X 5)) (t := .li (rwL hi)) (g := G) (by kernel_rfl) (by kernel_rfl) (runE_ev (o := []) (ps := [(2 : Int) ≠ 0, Builtin.divisionGoesByPylong (hi : Int) 2 = false, (2 : Int) ≠ 0, Builtin.divisionGoesByPylong (hi : Int) 2 = false, (2 : Int) ≠ 0, Builtin.divisionGoesByPylong (hi : Int) 2 = false]) (by kernel_rfl) ⟨by decide, pylong_no, by decide, pylong_no, by decide, pylong_no, trivial⟩)
      (fun c => Src1.tup) (by kernel_rfl) (Nat.le_refl _) (fun _ _ => rfl) (fun _ _ => nb_CT (Nat.le_refl _) nb_fl) (nb_l9 (Nat.le_refl _)) (fun j q e => by rw [rwL_at e]; exact .int) (fun j q o hj e => ⟨[], ?_⟩) (by show 5 ≤ 1000; decide)
    rw [rwL_at e]
    have h0 := hr j
    exact runE_ev (o := []) (ps := [0 ≤ max ((i : Int) - rw5 hi j) 0 ∧ max ((i : Int) - rw5 hi j) 0 < N ∧ max ((i : Int) - rw5 hi j) 0 < 1000000]) (by kernel_rfl) ⟨by omega, trivial⟩
  · refine Op_eq_ints (n := 5) (f := G) (s := .li (fl X 5)) (t := .sq 5 fun j => .int (G j)) rfl rfl rfl rfl (fun j u e => ?_) (fun j u e => itsE_sq e)
    rw [fl_at e, hX]
end
end

end
noncomputable section
noncomputable section
/-! the law, whole -/
section
variable {w : World} {g : Gl w} {n k : Nat} {d : Nat → Int}
theorem body690 (w : World) : bodyOf (KK w) 690 = [stAt (KK w) 690 0, stAt (KK w) 690 1, stAt (KK w) 690 2, stAt (KK w) 690 3, stAt (KK w) 690 4, stAt (KK w) 690 5, stAt (KK w) 690 6, stAt (KK w) 690 7, stAt (KK w) 690 8, stAt (KK w) 690 9, stAt (KK w) 690 10, stAt (KK w) 690 11, stAt (KK w) 690 12, stAt (KK w) 690 13, stAt (KK w) 690 14] := by kernel_rfl
set_option maxHeartbeats 4000000 in
theorem law_exs (hk : k ≤ 63) : ∃ st1, ExsG (xl g (n + 22)) (bodyOf (KK w) 690) ⟨l690 k d, N4⟩ (.ret (.bool true)) st1 := by
  obtain ⟨a, ha⟩ : ∃ a, absF d = a := ⟨_, rfl⟩
  obtain ⟨N, hN⟩ : ∃ N, cntN k a = N := ⟨_, rfl⟩
  have n1 : 1 ≤ N := hN ▸ cntN_pos
  have n9 : N ≤ 9 := hN ▸ cntN_le
  obtain ⟨L, hL⟩ : ∃ L : Nat → Nat, (fun j => (lenI k a j).toNat) = L := ⟨_, rfl⟩
  have eL : lenI k a = fun j => ((L j : Nat) : Int) := funext fun j => by
    rw [← hL]
    show lenI k a j = (((lenI k a j).toNat : Nat) : Int)
    have : 0 ≤ lenI k a j := drawV_lo (by decide)
    omega
  have l4 : ∀ j, L j < 4 := fun j => by
    have h1 := congrFun eL j
    have h2 := drawV_hi (k := k) (d := a) (c := 2 + j) (many := 4) (by decide)
    unfold lenI at h1; omega
  have v0 := drawV_lo (k := k) (d := a) (c := 1 + (N : Nat) + 1) (many := 4) (by decide)
  have v4 := drawV_hi (k := k) (d := a) (c := 1 + (N : Nat) + 1) (many := 4) (by decide)
  obtain ⟨hi, hhi⟩ := Int.eq_ofNat_of_zero_le (show 0 ≤ 2 + drawV k a (1 + (N : Nat) + 1) 4 by omega)
  have H : LawOk k N L hi := ⟨hk, n1, n9, l4, by omega, by omega⟩
  have hT := H.text
  have hcs := H.short
  have hfin := H.fin
  have z0 := drawV_lo (k := k) (d := a) (c := 1 + (N : Nat) + 1 + 18 + 1) (many := ((csL N L).length : Nat) + 1) (by omega)
  have z1 := drawV_hi (k := k) (d := a) (c := 1 + (N : Nat) + 1 + 18 + 1) (many := ((csL N L).length : Nat) + 1) (by omega)
  have dz := draw5' (g := g) (n := n + 21) (ls := .var (startP N L)) (at_ := .var .anyi) (len := .var (lenP N L)) (a := a) (c := 1 + (N : Nat) + 1 + 18) (many := ((csL N L).length : Nat) + 1) hk (by omega) (by omega) (by omega)
  obtain ⟨zv, hz⟩ : ∃ z, 1 + drawV k a (1 + (N : Nat) + 1 + 18 + 1) (((csL N L).length : Nat) + 1) = z := ⟨_, rfl⟩
  obtain ⟨i, hi', h1, h2⟩ := hT.line (z := zv) (by omega) (by rw [hfin]; omega)
  have hfd : Int.fdiv (hi : Int) 2 = (hi : Int) / 2 := Int.fdiv_eq_ediv_of_nonneg _ (by decide)
  have hh1 := H.h1
  have hh9 := H.h9
  have turn := a_turn (w := w) (g := g) (n := n + 1) (hi := hi) hcs hT hi' h1 h2 (by omega)
  rw [body690]
  refine ⟨⟨l9 w k d (csL N L) hi zv, CT N L i k a (1 + (N : Nat) + 1 + 18 + 1) 1 (fl (XX (startOf (lsOf N L)) N hi i) 5)⟩, ?_⟩
  refine ExsG_next (s0 hk) ?_
  rw [ha]
  refine ExsG_next (s1 (n := n + 21) (a := a) hk) ?_
  rw [hN, eL]
  refine ExsG_next (s2 (N := N) (L := L)) ?_
  refine ExsG_next (s3 n9 l4) ?_
  refine ExsG_next (s4 n9 l4) ?_
  refine ExsG_next (s5 n9) ?_
  refine ExsG_next (s6 (draw5' (n := n + 21) hk (by omega) (by omega) (by decide)) hhi) ?_
  refine ExsG_next (s7 (n := n + 18)) ?_
  refine ExsG_next (s8 H (by omega) (by omega)) ?_
  refine ExsG_next (s9 dz (by omega) hz) ?_
  refine ExsG_next (s10 (i := i) ((a_line_of (n := n + 21) hT h1 h2 hi').frame (NCL.cons (.seq fun _ => .int) (NCL.cons .int NCL.nil))) (a_turns_new (n := n + 20))) ?_
  refine ExsG_next (s11 (X := XX (startOf (lsOf N L)) N hi i) turn) ?_
  refine ExsG_next (s12 (a_turns_begin (n := n + 21))) ?_
  refine ExsG_next (s13 (turn 0 (by decide))) ?_
  refine fun ac hac => Exs_ret (s14 n9 (fun j => ?_) hi' (fun j => ?_) ac hac)
  · rcases j with _ | _ | _ | j
    · show 0 ≤ Int.fdiv (hi : Int) 2; omega
    · exact Int.le_refl 0
    · show 0 ≤ (hi : Int) - 1; omega
    · show 0 ≤ Int.fdiv (hi : Int) 2; omega
  · refine congrArg (startOf (lsOf N L)) ?_
    have half : lineOn N i (0 - rowOf hi (Int.fdiv hi 2)) = (max ((i : Int) - Int.fdiv hi 2) 0).toNat := lineOn_row hi' (half_le hh1).1 (half_le hh1).2
    rcases j with _ | _ | _ | j
    · exact half
    · exact lineOn_row hi' (Int.le_refl 0) (Int.sub_nonneg_of_le (Int.ofNat_le.mpr hh1))
    · exact lineOn_last hi' hh1
    · exact half
theorem fn_690 (w : World) : FnAtC (KK w) 690 [(Str.ofString "script")] [(Str.ofString "line_starts"), (Str.ofString "at"), (Str.ofString "lengths"), (Str.ofString "deck")] := ⟨by kernel_rfl, by kernel_rfl, by decide +kernel, by rintro (_ | ⟨v0, _ | ⟨v1, vs⟩⟩) h <;> first | (simp at h; done) | kernel_rfl, by kernel_rfl, by decide +kernel⟩
/-- the law answers True, called with no function below it -/
theorem a_law {A : Around} {h0 : Heap} {tk : Nat} {gs : Array GenState} {dr : Drawn} {os : OsState} {F : Addr → Obj → Prop} {cs : List (Addr × Obj)} {v : Value} (hk : k ≤ 63) (S : Start g 23 A h0 F [] cs [scriptP k d] [v]) (hfr : A.frames = some [])
    (Q : Value → Shared → Prop) (kQ : ∀ h' tk', (∀ b o, h0.get? b = some o → h'.get? b = some o) → Q (.bool true) ⟨h', gs, dr, tk', os⟩) : wpAny (model g.prog w) A (call (.ref 690) [v]) Q never ⟨h0, gs, dr, tk, os⟩ := by
  obtain ⟨st1, h⟩ := law_exs (w := w) (g := g) (n := 0) (d := d) hk
  have hc0 : cs = [] := List.eq_nil_of_length_eq_zero S.cells.len.symm
  subst hc0
  refine enter_cells (t := true) (st0 := ⟨l690 k d, N4⟩) (fn_690 w) rfl
    (all_cons (.inl ⟨.head _, by kernel_rfl⟩) (all_cons (.inr ⟨0, rfl, rfl, by kernel_rfl⟩) (all_cons (.inr ⟨1, rfl, rfl, by kernel_rfl⟩) (all_cons (.inr ⟨2, rfl, rfl, by kernel_rfl⟩) (all_cons (.inr ⟨3, rfl, rfl, by kernel_rfl⟩) all_nil))))) rfl
    (fun i mo e => ?_) h rfl rfl (NCL.cons .obj NCL.nil) S (fun _ => hfr) Q fun v h' tk' tl cs' ex D iv => ?_
  · rcases i with _ | _ | _ | _ | i
    · cases e; exact ⟨_, rfl, .inr ⟨by decide +kernel, rfl⟩⟩
    · cases e; exact ⟨_, rfl, .inr ⟨by decide +kernel, rfl⟩⟩
    · cases e; exact ⟨_, rfl, .inr ⟨by decide +kernel, rfl⟩⟩
    · cases e; exact ⟨_, rfl, .inr ⟨by decide +kernel, rfl⟩⟩
    · exact (nil_get (i := i) e).elim
  · have iv : Is w _ _ (.bool true) v := iv
    cases iv
    exact kQ h' tk' fun b o e => D.keep b o (fun h => nomatch h) e
end
end

end
noncomputable section
noncomputable section
/-! the heap that the text leaves, whole -/
noncomputable def restL (P : Params) : Frag :=
  (nat_lit 0, boot_o_0 P) ::
  (nat_lit 1, boot_o_1 P) ::
  (nat_lit 4, boot_o_4 P) ::
  (nat_lit 5, boot_o_5 P) ::
  (nat_lit 6, boot_o_6 P) ::
  (nat_lit 7, boot_o_7 P) ::
  (nat_lit 8, boot_o_8 P) ::
  (nat_lit 9, boot_o_9 P) ::
  (nat_lit 10, boot_o_10 P) ::
  (nat_lit 11, (kO (.type "tuple") (.seq #[] 0) #[])) ::
  (nat_lit 12, (Obj.mk .none none (Data.fields #[(kI 1 0), (kI 0 0), (.ref 20), (kI 5 0), (kI 0 0), (.ref 27), (kI 20 0), (kI 0 0), (.ref 47), (kI 28 0), (kI 0 0), (.ref 69), (kI 30 0), (kI 0 0), (.ref 76), (kI 32 0), (kI 0 0), (.ref 83), (kI 34 0), (kI 0 0), (.ref 90), (kI 47 0), (kI 0 0), (.ref 97), (kI 74 0), (kI 0 0), (.ref 168), (kI 80 0), (kI 0 0), (.ref 189), (kI 82 0), (kI 0 0), (.ref 196), (kI 86 0), (kI 0 0), (.ref 203), (kI 90 0), (kI 0 0), (.ref 210), (kI 95 0), (kI 0 0), (.ref 215), (kI 101 0), (kI 0 0), (.ref 220), (kI 103 0), (kI 0 0), (.ref 227), (kI 109 0), (kI 0 0), (.ref 232), (kI 122 0), (kI 0 0), (.ref 239), (kI 151 0), (kI 0 0), (.ref 288), (kI 174 0), (kI 0 0), (.ref 323), (kI 177 0), (kI 0 0), (.ref 330), (kI 186 0), (kI 0 0), (.ref 337), (kI 196 0), (kI 0 0), (.ref 344), (kI 214 0), (kI 0 0), (.ref 351), (kI 230 0), (kI 0 0), (.ref 358), (kI 234 0), (kI 0 0), (.ref 365), (kI 244 0), (kI 0 0), (.ref 372), (kI 248 0), (kI 0 0), (.ref 379), (kI 254 0), (kI 0 0), (.ref 386), (kI 257 0), (kI 0 0), (.ref 393), (kI 262 0), (kI 0 0), (.ref 400), (kI 266 0), (kI 0 0), (.ref 407), (kI 271 0), (kI 0 0), (.ref 414), (kI 276 0), (kI 0 0), (.ref 421), (kI 280 0), (kI 0 0), (.ref 428), (kI 288 0), (kI 0 0), (.ref 435), (kI 294 0), (kI 0 0), (.ref 442), (kI 306 0), (kI 0 0), (.ref 449), (kI 311 0), (kI 0 0), (.ref 471), (kI 327 0), (kI 0 0), (.ref 506), (kI 329 0), (kI 0 0), (.ref 513), (kI 338 0), (kI 0 0), (.ref 520), (kI 340 0), (kI 0 0), (.ref 528), (kI 348 0), (kI 0 0), (.ref 536), (kI 355 0), (kI 0 0), (.ref 543), (kI 362 0), (kI 0 0), (.ref 550), (kI 375 0), (kI 0 0), (.ref 586), (kI 385 0), (kI 0 0), (.ref 595), (kI 390 0), (kI 0 0), (.ref 618), (kI 423 0), (kI 0 0), (.ref 665), (kI 428 0), (kI 0 0), (.ref 670), (kI 430 0), (kI 0 0), (.ref 677), (kI 442 0), (kI 0 0), (.ref 684), (kI 447 0), (kI 0 0), (.ref 689)]) #[])) ::
  (nat_lit 13, (kO (.type "code") (.fields #[(kS "<module>" 182), (kS "<module>" 183), (kS "/claim/cut.py" 184), (kI 1 0), (kI 0 0), (kI 0 0), (kI 0 0), (kI 0 0), (.ref 11), (.bool false), (kI 181 0), (.ref 12), .none, .none, .none, .none, (kI 185 0), (kI 1 0), (kS "/claim/cut.py" 186)]) #[])) ::
  (nat_lit 14, (Obj.mk (.type "frame") none Data.plain #[(some (.ref 13)), (some (.ref 3)), (some (.ref 3)), none, (some (kS "__main__" 164)), none, (some (.ref 0))])) ::
  (nat_lit 16, (Obj.mk .none none (Data.fields #[]) #[])) ::
  (nat_lit 19, (Obj.mk .none none (Data.func (FuncData.mk (Str.ofString "_wall") (Str.ofString "_wall") (fdP (topS 0)) (FuncBody.stmts (fdB (topS 0))) (fdS (topS 0)) 0 [] .none .none .none .none none .none .none 0)) #[])) ::
  (nat_lit 23, (kO (.type "builtin_function_or_method") (.fields #[(.builtin "type.__prepare__"), (.type "type")]) #[])) ::
  (nat_lit 24, (kO (.type "dict") (.dict #[(kE P "__module__" 203 (kS "emacs.errors" 194)), (kE P "__qualname__" 205 (kS "LispSignal" 204)), (kE P "__firstlineno__" 207 (kI 5 206)), (kE P "__init__" 216 (.ref 35)), (kE P "__static_attributes__" 219 (.ref 36))] 5) #[])) ::
  (nat_lit 25, (kO (.type "tuple") (.seq #[] 0) #[])) ::
  (nat_lit 26, (Obj.mk .none none (Data.fields #[(kI 7 0), (kI 4 0), (.ref 34)]) #[])) ::
  (nat_lit 27, (kO (.type "code") (.fields #[(kS "LispSignal" 198), (kS "LispSignal" 199), (kS "/claim/cut.py" 200), (kI 5 0), (kI 0 0), (kI 0 0), (kI 0 0), (kI 0 0), (.ref 25), (.bool false), (kI 181 0), (.ref 26), .none, .none, .none, .none, (kI 201 0), (kI 5 0), (kS "/claim/cut.py" 202)]) #[])) ::
  (nat_lit 28, (Obj.mk (.type "frame") none Data.plain #[(some (.ref 27)), (some (.ref 3)), (some (.ref 24)), none, (some (kS "emacs.errors" 194)), none, (some (.ref 0))])) ::
  (nat_lit 30, (Obj.mk .none none (Data.fields #[]) #[])) ::
  (nat_lit 33, (Obj.mk .none none (Data.func (FuncData.mk (Str.ofString "__init__") (Str.ofString "LispSignal.__init__") (fdP (methS 2 0)) (FuncBody.stmts (fdB (methS 2 0))) (fdS (methS 2 0)) 0 [] .none .none .none .none none .none .none 0)) #[])) ::
  (nat_lit 40, (kO (.type "super") (.fields #[(.ref 38), (.ref 38), (.ref 38)]) #[])) ::
  (nat_lit 41, (kO (.type "builtin_function_or_method") (.fields #[(.builtin "object.__init_subclass__"), (.ref 38)]) #[])) ::
  (nat_lit 42, (kO (.type "tuple") (.seq #[] 0) #[])) ::
  (nat_lit 43, (kO (.type "builtin_function_or_method") (.fields #[(.builtin "type.__prepare__"), (.type "type")]) #[])) ::
  (nat_lit 44, (kO (.type "dict") (.dict #[(kE P "__module__" 255 (kS "emacs.glyphs" 227)), (kE P "__qualname__" 257 (kS "Options" 256)), (kE P "__firstlineno__" 259 (kI 20 258)), (kE P "__init__" 273 (.ref 56)), (kE P "__static_attributes__" 279 (.ref 57))] 5) #[])) ::
  (nat_lit 45, (kO (.type "tuple") (.seq #[] 0) #[])) ::
  (nat_lit 46, (Obj.mk .none none (Data.fields #[(kI 22 0), (kI 4 0), (.ref 55)]) #[])) ::
  (nat_lit 47, (kO (.type "code") (.fields #[(kS "Options" 250), (kS "Options" 251), (kS "/claim/cut.py" 252), (kI 20 0), (kI 0 0), (kI 0 0), (kI 0 0), (kI 0 0), (.ref 45), (.bool false), (kI 181 0), (.ref 46), .none, .none, .none, .none, (kI 253 0), (kI 20 0), (kS "/claim/cut.py" 254)]) #[])) ::
  (nat_lit 48, (Obj.mk (.type "frame") none Data.plain #[(some (.ref 47)), (some (.ref 3)), (some (.ref 44)), none, (some (kS "emacs.glyphs" 227)), none, (some (.ref 0))])) ::
  (nat_lit 51, (Obj.mk .none none (Data.fields #[]) #[])) ::
  (nat_lit 54, (Obj.mk .none none (Data.func (FuncData.mk (Str.ofString "__init__") (Str.ofString "Options.__init__") (fdP (methS 13 0)) (FuncBody.stmts (fdB (methS 13 0))) (fdS (methS 13 0)) 0 [] .none .none .none .none none .none .none 0)) #[])) ::
  (nat_lit 62, (kO (.type "super") (.fields #[(.ref 59), (.ref 59), (.ref 59)]) #[])) ::
  (nat_lit 63, (kO (.type "builtin_function_or_method") (.fields #[(.builtin "object.__init_subclass__"), (.ref 59)]) #[])) ::
  (nat_lit 65, (Obj.mk .none none (Data.fields #[]) #[])) ::
  (nat_lit 68, (Obj.mk .none none (Data.func (FuncData.mk (Str.ofString "is_control") (Str.ofString "is_control") (fdP (topS 14)) (FuncBody.stmts (fdB (topS 14))) (fdS (topS 14)) 0 [] .none .none .none .none none .none .none 0)) #[])) ::
  (nat_lit 72, (Obj.mk .none none (Data.fields #[]) #[])) ::
  (nat_lit 75, (Obj.mk .none none (Data.func (FuncData.mk (Str.ofString "is_raw") (Str.ofString "is_raw") (fdP (topS 15)) (FuncBody.stmts (fdB (topS 15))) (fdS (topS 15)) 0 [] .none .none .none .none none .none .none 0)) #[])) ::
  (nat_lit 79, (Obj.mk .none none (Data.fields #[]) #[])) ::
  (nat_lit 82, (Obj.mk .none none (Data.func (FuncData.mk (Str.ofString "figures_of") (Str.ofString "figures_of") (fdP (topS 16)) (FuncBody.stmts (fdB (topS 16))) (fdS (topS 16)) 0 [] .none .none .none .none none .none .none 0)) #[])) ::
  (nat_lit 86, (Obj.mk .none none (Data.fields #[]) #[])) ::
  (nat_lit 89, (Obj.mk .none none (Data.func (FuncData.mk (Str.ofString "shown_codes") (Str.ofString "shown_codes") (fdP (topS 17)) (FuncBody.stmts (fdB (topS 17))) (fdS (topS 17)) 0 [] .none .none .none .none none .none .none 0)) #[])) ::
  (nat_lit 92, (kO (.type "tuple") (.seq #[] 0) #[])) ::
  (nat_lit 93, (kO (.type "builtin_function_or_method") (.fields #[(.builtin "type.__prepare__"), (.type "type")]) #[])) ::
  (nat_lit 94, (kO (.type "dict") (.dict #[(kE P "__module__" 330 (kS "emacs.views" 317)), (kE P "__qualname__" 332 (kS "View" 331)), (kE P "__firstlineno__" 334 (kI 47 333)), (kE P "__init__" 344 (.ref 106)), (kE P "begin" 351 (.ref 113)), (kE P "end" 358 (.ref 120)), (kE P "code_at" 366 (.ref 127)), (kE P "faces_at" 374 (.ref 134)), (kE P "hidden_at" 382 (.ref 141)), (kE P "shown_at" 390 (.ref 148)), (kE P "strings_at" 398 (.ref 155)), (kE P "__static_attributes__" 401 (.ref 156))] 12) #[])) ::
  (nat_lit 95, (kO (.type "tuple") (.seq #[] 0) #[])) ::
  (nat_lit 96, (Obj.mk .none none (Data.fields #[(kI 49 0), (kI 4 0), (.ref 105), (kI 53 0), (kI 4 0), (.ref 112), (kI 56 0), (kI 4 0), (.ref 119), (kI 59 0), (kI 4 0), (.ref 126), (kI 62 0), (kI 4 0), (.ref 133), (kI 65 0), (kI 4 0), (.ref 140), (kI 68 0), (kI 4 0), (.ref 147), (kI 71 0), (kI 4 0), (.ref 154)]) #[])) ::
  (nat_lit 97, (kO (.type "code") (.fields #[(kS "View" 325), (kS "View" 326), (kS "/claim/cut.py" 327), (kI 47 0), (kI 0 0), (kI 0 0), (kI 0 0), (kI 0 0), (.ref 95), (.bool false), (kI 181 0), (.ref 96), .none, .none, .none, .none, (kI 328 0), (kI 47 0), (kS "/claim/cut.py" 329)]) #[])) ::
  (nat_lit 98, (Obj.mk (.type "frame") none Data.plain #[(some (.ref 97)), (some (.ref 3)), (some (.ref 94)), none, (some (kS "emacs.views" 317)), none, (some (.ref 0))])) ::
  (nat_lit 101, (Obj.mk .none none (Data.fields #[]) #[])) ::
  (nat_lit 104, (Obj.mk .none none (Data.func (FuncData.mk (Str.ofString "__init__") (Str.ofString "View.__init__") (fdP (methS 21 0)) (FuncBody.stmts (fdB (methS 21 0))) (fdS (methS 21 0)) 0 [] .none .none .none .none none .none .none 0)) #[])) ::
  (nat_lit 108, (Obj.mk .none none (Data.fields #[]) #[])) ::
  (nat_lit 111, (Obj.mk .none none (Data.func (FuncData.mk (Str.ofString "begin") (Str.ofString "View.begin") (fdP (methS 21 1)) (FuncBody.stmts (fdB (methS 21 1))) (fdS (methS 21 1)) 0 [] .none .none .none .none none .none .none 0)) #[])) ::
  (nat_lit 115, (Obj.mk .none none (Data.fields #[]) #[])) ::
  (nat_lit 118, (Obj.mk .none none (Data.func (FuncData.mk (Str.ofString "end") (Str.ofString "View.end") (fdP (methS 21 2)) (FuncBody.stmts (fdB (methS 21 2))) (fdS (methS 21 2)) 0 [] .none .none .none .none none .none .none 0)) #[])) ::
  (nat_lit 122, (Obj.mk .none none (Data.fields #[]) #[])) ::
  (nat_lit 125, (Obj.mk .none none (Data.func (FuncData.mk (Str.ofString "code_at") (Str.ofString "View.code_at") (fdP (methS 21 3)) (FuncBody.stmts (fdB (methS 21 3))) (fdS (methS 21 3)) 0 [] .none .none .none .none none .none .none 0)) #[])) ::
  (nat_lit 129, (Obj.mk .none none (Data.fields #[]) #[])) ::
  (nat_lit 132, (Obj.mk .none none (Data.func (FuncData.mk (Str.ofString "faces_at") (Str.ofString "View.faces_at") (fdP (methS 21 4)) (FuncBody.stmts (fdB (methS 21 4))) (fdS (methS 21 4)) 0 [] .none .none .none .none none .none .none 0)) #[])) ::
  (nat_lit 136, (Obj.mk .none none (Data.fields #[]) #[])) ::
  (nat_lit 139, (Obj.mk .none none (Data.func (FuncData.mk (Str.ofString "hidden_at") (Str.ofString "View.hidden_at") (fdP (methS 21 5)) (FuncBody.stmts (fdB (methS 21 5))) (fdS (methS 21 5)) 0 [] .none .none .none .none none .none .none 0)) #[])) ::
  (nat_lit 143, (Obj.mk .none none (Data.fields #[]) #[])) ::
  (nat_lit 146, (Obj.mk .none none (Data.func (FuncData.mk (Str.ofString "shown_at") (Str.ofString "View.shown_at") (fdP (methS 21 6)) (FuncBody.stmts (fdB (methS 21 6))) (fdS (methS 21 6)) 0 [] .none .none .none .none none .none .none 0)) #[])) ::
  (nat_lit 150, (Obj.mk .none none (Data.fields #[]) #[])) ::
  (nat_lit 153, (Obj.mk .none none (Data.func (FuncData.mk (Str.ofString "strings_at") (Str.ofString "View.strings_at") (fdP (methS 21 7)) (FuncBody.stmts (fdB (methS 21 7))) (fdS (methS 21 7)) 0 [] .none .none .none .none none .none .none 0)) #[])) ::
  (nat_lit 161, (kO (.type "super") (.fields #[(.ref 158), (.ref 158), (.ref 158)]) #[])) ::
  (nat_lit 162, (kO (.type "builtin_function_or_method") (.fields #[(.builtin "object.__init_subclass__"), (.ref 158)]) #[])) ::
  (nat_lit 163, (kO (.type "tuple") (.seq #[] 0) #[])) ::
  (nat_lit 164, (kO (.type "builtin_function_or_method") (.fields #[(.builtin "type.__prepare__"), (.type "type")]) #[])) ::
  (nat_lit 165, (kO (.type "dict") (.dict #[(kE P "__module__" 418 (kS "emacs.signs" 409)), (kE P "__qualname__" 420 (kS "Signs" 419)), (kE P "__firstlineno__" 422 (kI 74 421)), (kE P "__init__" 432 (.ref 176)), (kE P "__static_attributes__" 436 (.ref 177))] 5) #[])) ::
  (nat_lit 166, (kO (.type "tuple") (.seq #[] 0) #[])) ::
  (nat_lit 167, (Obj.mk .none none (Data.fields #[(kI 76 0), (kI 4 0), (.ref 175)]) #[])) ::
  (nat_lit 168, (kO (.type "code") (.fields #[(kS "Signs" 413), (kS "Signs" 414), (kS "/claim/cut.py" 415), (kI 74 0), (kI 0 0), (kI 0 0), (kI 0 0), (kI 0 0), (.ref 166), (.bool false), (kI 181 0), (.ref 167), .none, .none, .none, .none, (kI 416 0), (kI 74 0), (kS "/claim/cut.py" 417)]) #[])) ::
  (nat_lit 169, (Obj.mk (.type "frame") none Data.plain #[(some (.ref 168)), (some (.ref 3)), (some (.ref 165)), none, (some (kS "emacs.signs" 409)), none, (some (.ref 0))])) ::
  (nat_lit 171, (Obj.mk .none none (Data.fields #[]) #[])) ::
  (nat_lit 174, (Obj.mk .none none (Data.func (FuncData.mk (Str.ofString "__init__") (Str.ofString "Signs.__init__") (fdP (methS 23 0)) (FuncBody.stmts (fdB (methS 23 0))) (fdS (methS 23 0)) 0 [] .none .none .none .none none .none .none 0)) #[])) ::
  (nat_lit 182, (kO (.type "super") (.fields #[(.ref 179), (.ref 179), (.ref 179)]) #[])) ::
  (nat_lit 183, (kO (.type "builtin_function_or_method") (.fields #[(.builtin "object.__init_subclass__"), (.ref 179)]) #[])) ::
  (nat_lit 185, (Obj.mk .none none (Data.fields #[]) #[])) ::
  (nat_lit 188, (Obj.mk .none none (Data.func (FuncData.mk (Str.ofString "is_break") (Str.ofString "is_break") (fdP (topS 24)) (FuncBody.stmts (fdB (topS 24))) (fdS (topS 24)) 0 [] .none .none .none .none none .none .none 0)) #[])) ::
  (nat_lit 192, (Obj.mk .none none (Data.fields #[]) #[])) ::
  (nat_lit 195, (Obj.mk .none none (Data.func (FuncData.mk (Str.ofString "hidden_end") (Str.ofString "hidden_end") (fdP (topS 25)) (FuncBody.stmts (fdB (topS 25))) (fdS (topS 25)) 0 [] .none .none .none .none none .none .none 0)) #[])) ::
  (nat_lit 199, (Obj.mk .none none (Data.fields #[]) #[])) ::
  (nat_lit 202, (Obj.mk .none none (Data.func (FuncData.mk (Str.ofString "hidden_begin") (Str.ofString "hidden_begin") (fdP (topS 26)) (FuncBody.stmts (fdB (topS 26))) (fdS (topS 26)) 0 [] .none .none .none .none none .none .none 0)) #[])) ::
  (nat_lit 206, (Obj.mk .none none (Data.fields #[]) #[])) ::
  (nat_lit 209, (Obj.mk .none none (Data.func (FuncData.mk (Str.ofString "shown_place") (Str.ofString "shown_place") (fdP (topS 27)) (FuncBody.stmts (fdB (topS 27))) (fdS (topS 27)) 0 [] .none .none .none .none none .none .none 0)) #[])) ::
  (nat_lit 213, (Obj.mk .none none (Data.fields #[]) #[])) ::
  (nat_lit 214, (Obj.mk .none none (Data.func (FuncData.mk (Str.ofString "string_signs") (Str.ofString "string_signs") (fdP (topS 28)) (FuncBody.stmts (fdB (topS 28))) (fdS (topS 28)) 0 [] .none .none .none .none none .none .none 0)) #[])) ::
  (nat_lit 218, (Obj.mk .none none (Data.fields #[]) #[])) ::
  (nat_lit 219, (Obj.mk .none none (Data.func (FuncData.mk (Str.ofString "string_count") (Str.ofString "string_count") (fdP (topS 29)) (FuncBody.stmts (fdB (topS 29))) (fdS (topS 29)) 0 [] .none .none .none .none none .none .none 0)) #[])) ::
  (nat_lit 223, (Obj.mk .none none (Data.fields #[]) #[])) ::
  (nat_lit 226, (Obj.mk .none none (Data.func (FuncData.mk (Str.ofString "hidden_signs") (Str.ofString "hidden_signs") (fdP (topS 30)) (FuncBody.stmts (fdB (topS 30))) (fdS (topS 30)) 0 [] .none .none .none .none none .none .none 0)) #[])) ::
  (nat_lit 230, (Obj.mk .none none (Data.fields #[]) #[])) ::
  (nat_lit 231, (Obj.mk .none none (Data.func (FuncData.mk (Str.ofString "signs_at") (Str.ofString "signs_at") (fdP (topS 31)) (FuncBody.stmts (fdB (topS 31))) (fdS (topS 31)) 0 [] .none .none .none .none none .none .none 0)) #[])) ::
  (nat_lit 234, (kO (.type "tuple") (.seq #[] 0) #[])) ::
  (nat_lit 235, (kO (.type "builtin_function_or_method") (.fields #[(.builtin "type.__prepare__"), (.type "type")]) #[])) ::
  (nat_lit 236, (kO (.type "dict") (.dict #[(kE P "__module__" 514 (kS "emacs.signs" 409)), (kE P "__qualname__" 516 (kS "Walk" 515)), (kE P "__firstlineno__" 518 (kI 122 517)), (kE P "__init__" 528 (.ref 247)), (kE P "settle" 535 (.ref 254)), (kE P "sign" 542 (.ref 261)), (kE P "step" 549 (.ref 268)), (kE P "spot" 556 (.ref 275)), (kE P "__static_attributes__" 563 (.ref 276))] 9) #[])) ::
  (nat_lit 237, (kO (.type "tuple") (.seq #[] 0) #[])) ::
  (nat_lit 238, (Obj.mk .none none (Data.fields #[(kI 124 0), (kI 4 0), (.ref 246), (kI 131 0), (kI 4 0), (.ref 253), (kI 141 0), (kI 4 0), (.ref 260), (kI 144 0), (kI 4 0), (.ref 267), (kI 147 0), (kI 4 0), (.ref 274)]) #[])) ::
  (nat_lit 239, (kO (.type "code") (.fields #[(kS "Walk" 509), (kS "Walk" 510), (kS "/claim/cut.py" 511), (kI 122 0), (kI 0 0), (kI 0 0), (kI 0 0), (kI 0 0), (.ref 237), (.bool false), (kI 181 0), (.ref 238), .none, .none, .none, .none, (kI 512 0), (kI 122 0), (kS "/claim/cut.py" 513)]) #[])) ::
  (nat_lit 240, (Obj.mk (.type "frame") none Data.plain #[(some (.ref 239)), (some (.ref 3)), (some (.ref 236)), none, (some (kS "emacs.signs" 409)), none, (some (.ref 0))])) ::
  (nat_lit 242, (Obj.mk .none none (Data.fields #[]) #[])) ::
  (nat_lit 245, (Obj.mk .none none (Data.func (FuncData.mk (Str.ofString "__init__") (Str.ofString "Walk.__init__") (fdP (methS 32 0)) (FuncBody.stmts (fdB (methS 32 0))) (fdS (methS 32 0)) 0 [] .none .none .none .none none .none .none 0)) #[])) ::
  (nat_lit 249, (Obj.mk .none none (Data.fields #[]) #[])) ::
  (nat_lit 252, (Obj.mk .none none (Data.func (FuncData.mk (Str.ofString "settle") (Str.ofString "Walk.settle") (fdP (methS 32 1)) (FuncBody.stmts (fdB (methS 32 1))) (fdS (methS 32 1)) 0 [] .none .none .none .none none .none .none 0)) #[])) ::
  (nat_lit 256, (Obj.mk .none none (Data.fields #[]) #[])) ::
  (nat_lit 259, (Obj.mk .none none (Data.func (FuncData.mk (Str.ofString "sign") (Str.ofString "Walk.sign") (fdP (methS 32 2)) (FuncBody.stmts (fdB (methS 32 2))) (fdS (methS 32 2)) 0 [] .none .none .none .none none .none .none 0)) #[])) ::
  (nat_lit 263, (Obj.mk .none none (Data.fields #[]) #[])) ::
  (nat_lit 266, (Obj.mk .none none (Data.func (FuncData.mk (Str.ofString "step") (Str.ofString "Walk.step") (fdP (methS 32 3)) (FuncBody.stmts (fdB (methS 32 3))) (fdS (methS 32 3)) 0 [] .none .none .none .none none .none .none 0)) #[])) ::
  (nat_lit 270, (Obj.mk .none none (Data.fields #[]) #[])) ::
  (nat_lit 273, (Obj.mk .none none (Data.func (FuncData.mk (Str.ofString "spot") (Str.ofString "Walk.spot") (fdP (methS 32 4)) (FuncBody.stmts (fdB (methS 32 4))) (fdS (methS 32 4)) 0 [] .none .none .none .none none .none .none 0)) #[])) ::
  (nat_lit 281, (kO (.type "super") (.fields #[(.ref 278), (.ref 278), (.ref 278)]) #[])) ::
  (nat_lit 282, (kO (.type "builtin_function_or_method") (.fields #[(.builtin "object.__init_subclass__"), (.ref 278)]) #[])) ::
  (nat_lit 283, (kO (.type "tuple") (.seq #[] 0) #[])) ::
  (nat_lit 284, (kO (.type "builtin_function_or_method") (.fields #[(.builtin "type.__prepare__"), (.type "type")]) #[])) ::
  (nat_lit 285, (kO (.type "dict") (.dict #[(kE P "__module__" 580 (kS "emacs.rows" 571)), (kE P "__qualname__" 582 (kS "Row" 581)), (kE P "__firstlineno__" 584 (kI 151 583)), (kE P "__init__" 593 (.ref 296)), (kE P "stop" 602 (.ref 303)), (kE P "cut_back" 612 (.ref 310)), (kE P "__static_attributes__" 623 (.ref 311))] 7) #[])) ::
  (nat_lit 286, (kO (.type "tuple") (.seq #[] 0) #[])) ::
  (nat_lit 287, (Obj.mk .none none (Data.fields #[(kI 153 0), (kI 4 0), (.ref 295), (kI 165 0), (kI 4 0), (.ref 302), (kI 170 0), (kI 4 0), (.ref 309)]) #[])) ::
  (nat_lit 288, (kO (.type "code") (.fields #[(kS "Row" 575), (kS "Row" 576), (kS "/claim/cut.py" 577), (kI 151 0), (kI 0 0), (kI 0 0), (kI 0 0), (kI 0 0), (.ref 286), (.bool false), (kI 181 0), (.ref 287), .none, .none, .none, .none, (kI 578 0), (kI 151 0), (kS "/claim/cut.py" 579)]) #[])) ::
  (nat_lit 289, (Obj.mk (.type "frame") none Data.plain #[(some (.ref 288)), (some (.ref 3)), (some (.ref 285)), none, (some (kS "emacs.rows" 571)), none, (some (.ref 0))])) ::
  (nat_lit 291, (Obj.mk .none none (Data.fields #[]) #[])) ::
  (nat_lit 294, (Obj.mk .none none (Data.func (FuncData.mk (Str.ofString "__init__") (Str.ofString "Row.__init__") (fdP (methS 34 0)) (FuncBody.stmts (fdB (methS 34 0))) (fdS (methS 34 0)) 0 [] .none .none .none .none none .none .none 0)) #[])) ::
  (nat_lit 298, (Obj.mk .none none (Data.fields #[]) #[])) ::
  (nat_lit 301, (Obj.mk .none none (Data.func (FuncData.mk (Str.ofString "stop") (Str.ofString "Row.stop") (fdP (methS 34 1)) (FuncBody.stmts (fdB (methS 34 1))) (fdS (methS 34 1)) 0 [] .none .none .none .none none .none .none 0)) #[])) ::
  (nat_lit 305, (Obj.mk .none none (Data.fields #[]) #[])) ::
  (nat_lit 308, (Obj.mk .none none (Data.func (FuncData.mk (Str.ofString "cut_back") (Str.ofString "Row.cut_back") (fdP (methS 34 2)) (FuncBody.stmts (fdB (methS 34 2))) (fdS (methS 34 2)) 0 [] .none .none .none .none none .none .none 0)) #[])) ::
  (nat_lit 316, (kO (.type "super") (.fields #[(.ref 313), (.ref 313), (.ref 313)]) #[])) ::
  (nat_lit 317, (kO (.type "builtin_function_or_method") (.fields #[(.builtin "object.__init_subclass__"), (.ref 313)]) #[])) ::
  (nat_lit 319, (Obj.mk .none none (Data.fields #[]) #[])) ::
  (nat_lit 322, (Obj.mk .none none (Data.func (FuncData.mk (Str.ofString "put_sign") (Str.ofString "put_sign") (fdP (topS 35)) (FuncBody.stmts (fdB (topS 35))) (fdS (topS 35)) 0 [] .none .none .none .none none .none .none 0)) #[])) ::
  (nat_lit 326, (Obj.mk .none none (Data.fields #[]) #[])) ::
  (nat_lit 329, (Obj.mk .none none (Data.func (FuncData.mk (Str.ofString "end_of_line") (Str.ofString "end_of_line") (fdP (topS 36)) (FuncBody.stmts (fdB (topS 36))) (fdS (topS 36)) 0 [] .none .none .none .none none .none .none 0)) #[])) ::
  (nat_lit 333, (Obj.mk .none none (Data.fields #[]) #[])) ::
  (nat_lit 336, (Obj.mk .none none (Data.func (FuncData.mk (Str.ofString "overflow") (Str.ofString "overflow") (fdP (topS 37)) (FuncBody.stmts (fdB (topS 37))) (fdS (topS 37)) 0 [] .none .none .none .none none .none .none 0)) #[])) ::
  (nat_lit 340, (Obj.mk .none none (Data.fields #[]) #[])) ::
  (nat_lit 343, (Obj.mk .none none (Data.func (FuncData.mk (Str.ofString "folded_row") (Str.ofString "folded_row") (fdP (topS 38)) (FuncBody.stmts (fdB (topS 38))) (fdS (topS 38)) 0 [] .none .none .none .none none .none .none 0)) #[])) ::
  (nat_lit 347, (Obj.mk .none none (Data.fields #[]) #[])) ::
  (nat_lit 350, (Obj.mk .none none (Data.func (FuncData.mk (Str.ofString "cut_row") (Str.ofString "cut_row") (fdP (topS 39)) (FuncBody.stmts (fdB (topS 39))) (fdS (topS 39)) 0 [] .none .none .none .none none .none .none 0)) #[])) ::
  (nat_lit 354, (Obj.mk .none none (Data.fields #[]) #[])) ::
  (nat_lit 357, (Obj.mk .none none (Data.func (FuncData.mk (Str.ofString "laid_row") (Str.ofString "laid_row") (fdP (topS 40)) (FuncBody.stmts (fdB (topS 40))) (fdS (topS 40)) 0 [] .none .none .none .none none .none .none 0)) #[])) ::
  (nat_lit 361, (Obj.mk .none none (Data.fields #[]) #[])) ::
  (nat_lit 364, (Obj.mk .none none (Data.func (FuncData.mk (Str.ofString "laid_rows") (Str.ofString "laid_rows") (fdP (topS 41)) (FuncBody.stmts (fdB (topS 41))) (fdS (topS 41)) 0 [] .none .none .none .none none .none .none 0)) #[])) ::
  (nat_lit 368, (Obj.mk .none none (Data.fields #[]) #[])) ::
  (nat_lit 371, (Obj.mk .none none (Data.func (FuncData.mk (Str.ofString "line_begin") (Str.ofString "line_begin") (fdP (topS 43)) (FuncBody.stmts (fdB (topS 43))) (fdS (topS 43)) 0 [] .none .none .none .none none .none .none 0)) #[])) ::
  (nat_lit 375, (Obj.mk .none none (Data.fields #[]) #[])) ::
  (nat_lit 378, (Obj.mk .none none (Data.func (FuncData.mk (Str.ofString "rows_of_line") (Str.ofString "rows_of_line") (fdP (topS 44)) (FuncBody.stmts (fdB (topS 44))) (fdS (topS 44)) 0 [] .none .none .none .none none .none .none 0)) #[])) ::
  (nat_lit 382, (Obj.mk .none none (Data.fields #[]) #[])) ::
  (nat_lit 385, (Obj.mk .none none (Data.func (FuncData.mk (Str.ofString "own_spot") (Str.ofString "own_spot") (fdP (topS 45)) (FuncBody.stmts (fdB (topS 45))) (fdS (topS 45)) 0 [] .none .none .none .none none .none .none 0)) #[])) ::
  (nat_lit 389, (Obj.mk .none none (Data.fields #[]) #[])) ::
  (nat_lit 392, (Obj.mk .none none (Data.func (FuncData.mk (Str.ofString "index_of") (Str.ofString "index_of") (fdP (topS 46)) (FuncBody.stmts (fdB (topS 46))) (fdS (topS 46)) 0 [] .none .none .none .none none .none .none 0)) #[])) ::
  (nat_lit 396, (Obj.mk .none none (Data.fields #[]) #[])) ::
  (nat_lit 399, (Obj.mk .none none (Data.func (FuncData.mk (Str.ofString "has_place") (Str.ofString "has_place") (fdP (topS 47)) (FuncBody.stmts (fdB (topS 47))) (fdS (topS 47)) 0 [] .none .none .none .none none .none .none 0)) #[])) ::
  (nat_lit 403, (Obj.mk .none none (Data.fields #[]) #[])) ::
  (nat_lit 406, (Obj.mk .none none (Data.func (FuncData.mk (Str.ofString "column_in") (Str.ofString "column_in") (fdP (topS 48)) (FuncBody.stmts (fdB (topS 48))) (fdS (topS 48)) 0 [] .none .none .none .none none .none .none 0)) #[])) ::
  (nat_lit 410, (Obj.mk .none none (Data.fields #[]) #[])) ::
  (nat_lit 413, (Obj.mk .none none (Data.func (FuncData.mk (Str.ofString "cursor_in") (Str.ofString "cursor_in") (fdP (topS 49)) (FuncBody.stmts (fdB (topS 49))) (fdS (topS 49)) 0 [] .none .none .none .none none .none .none 0)) #[])) ::
  (nat_lit 417, (Obj.mk .none none (Data.fields #[]) #[])) ::
  (nat_lit 420, (Obj.mk .none none (Data.func (FuncData.mk (Str.ofString "window_begin") (Str.ofString "window_begin") (fdP (topS 50)) (FuncBody.stmts (fdB (topS 50))) (fdS (topS 50)) 0 [] .none .none .none .none none .none .none 0)) #[])) ::
  (nat_lit 424, (Obj.mk .none none (Data.fields #[]) #[])) ::
  (nat_lit 427, (Obj.mk .none none (Data.func (FuncData.mk (Str.ofString "row_ahead") (Str.ofString "row_ahead") (fdP (topS 51)) (FuncBody.stmts (fdB (topS 51))) (fdS (topS 51)) 0 [] .none .none .none .none none .none .none 0)) #[])) ::
  (nat_lit 431, (Obj.mk .none none (Data.fields #[]) #[])) ::
  (nat_lit 434, (Obj.mk .none none (Data.func (FuncData.mk (Str.ofString "row_behind") (Str.ofString "row_behind") (fdP (topS 52)) (FuncBody.stmts (fdB (topS 52))) (fdS (topS 52)) 0 [] .none .none .none .none none .none .none 0)) #[])) ::
  (nat_lit 438, (Obj.mk .none none (Data.fields #[]) #[])) ::
  (nat_lit 441, (Obj.mk .none none (Data.func (FuncData.mk (Str.ofString "vertical_motion") (Str.ofString "vertical_motion") (fdP (topS 53)) (FuncBody.stmts (fdB (topS 53))) (fdS (topS 53)) 0 [] .none .none .none .none none .none .none 0)) #[])) ::
  (nat_lit 444, (kO (.type "tuple") (.seq #[] 0) #[])) ::
  (nat_lit 445, (kO (.type "builtin_function_or_method") (.fields #[(.builtin "type.__prepare__"), (.type "type")]) #[])) ::
  (nat_lit 446, (kO (.type "dict") (.dict #[(kE P "__module__" 864 (kS "emacs.scrolling" 855)), (kE P "__qualname__" 866 (kS "Rules" 865)), (kE P "__firstlineno__" 868 (kI 306 867)), (kE P "__init__" 879 (.ref 458)), (kE P "__static_attributes__" 882 (.ref 459))] 5) #[])) ::
  (nat_lit 447, (kO (.type "tuple") (.seq #[] 0) #[])) ::
  (nat_lit 448, (Obj.mk .none none (Data.fields #[(kI 308 0), (kI 4 0), (.ref 457)]) #[])) ::
  (nat_lit 449, (kO (.type "code") (.fields #[(kS "Rules" 859), (kS "Rules" 860), (kS "/claim/cut.py" 861), (kI 306 0), (kI 0 0), (kI 0 0), (kI 0 0), (kI 0 0), (.ref 447), (.bool false), (kI 181 0), (.ref 448), .none, .none, .none, .none, (kI 862 0), (kI 306 0), (kS "/claim/cut.py" 863)]) #[])) ::
  (nat_lit 450, (Obj.mk (.type "frame") none Data.plain #[(some (.ref 449)), (some (.ref 3)), (some (.ref 446)), none, (some (kS "emacs.scrolling" 855)), none, (some (.ref 0))])) ::
  (nat_lit 453, (Obj.mk .none none (Data.fields #[]) #[])) ::
  (nat_lit 456, (Obj.mk .none none (Data.func (FuncData.mk (Str.ofString "__init__") (Str.ofString "Rules.__init__") (fdP (methS 55 0)) (FuncBody.stmts (fdB (methS 55 0))) (fdS (methS 55 0)) 0 [] .none .none .none .none none .none .none 0)) #[])) ::
  (nat_lit 464, (kO (.type "super") (.fields #[(.ref 461), (.ref 461), (.ref 461)]) #[])) ::
  (nat_lit 465, (kO (.type "builtin_function_or_method") (.fields #[(.builtin "object.__init_subclass__"), (.ref 461)]) #[])) ::
  (nat_lit 466, (kO (.type "tuple") (.seq #[] 0) #[])) ::
  (nat_lit 467, (kO (.type "builtin_function_or_method") (.fields #[(.builtin "type.__prepare__"), (.type "type")]) #[])) ::
  (nat_lit 468, (kO (.type "dict") (.dict #[(kE P "__module__" 897 (kS "emacs.scrolling" 855)), (kE P "__qualname__" 899 (kS "Pane" 898)), (kE P "__firstlineno__" 901 (kI 311 900)), (kE P "__init__" 914 (.ref 479)), (kE P "rows_from" 924 (.ref 486)), (kE P "moved" 933 (.ref 493)), (kE P "__static_attributes__" 940 (.ref 494))] 7) #[])) ::
  (nat_lit 469, (kO (.type "tuple") (.seq #[] 0) #[])) ::
  (nat_lit 470, (Obj.mk .none none (Data.fields #[(kI 313 0), (kI 4 0), (.ref 478), (kI 321 0), (kI 4 0), (.ref 485), (kI 325 0), (kI 4 0), (.ref 492)]) #[])) ::
  (nat_lit 471, (kO (.type "code") (.fields #[(kS "Pane" 892), (kS "Pane" 893), (kS "/claim/cut.py" 894), (kI 311 0), (kI 0 0), (kI 0 0), (kI 0 0), (kI 0 0), (.ref 469), (.bool false), (kI 181 0), (.ref 470), .none, .none, .none, .none, (kI 895 0), (kI 311 0), (kS "/claim/cut.py" 896)]) #[])) ::
  (nat_lit 472, (Obj.mk (.type "frame") none Data.plain #[(some (.ref 471)), (some (.ref 3)), (some (.ref 468)), none, (some (kS "emacs.scrolling" 855)), none, (some (.ref 0))])) ::
  (nat_lit 474, (Obj.mk .none none (Data.fields #[]) #[])) ::
  (nat_lit 477, (Obj.mk .none none (Data.func (FuncData.mk (Str.ofString "__init__") (Str.ofString "Pane.__init__") (fdP (methS 56 0)) (FuncBody.stmts (fdB (methS 56 0))) (fdS (methS 56 0)) 0 [] .none .none .none .none none .none .none 0)) #[])) ::
  (nat_lit 481, (Obj.mk .none none (Data.fields #[]) #[])) ::
  (nat_lit 484, (Obj.mk .none none (Data.func (FuncData.mk (Str.ofString "rows_from") (Str.ofString "Pane.rows_from") (fdP (methS 56 1)) (FuncBody.stmts (fdB (methS 56 1))) (fdS (methS 56 1)) 0 [] .none .none .none .none none .none .none 0)) #[])) ::
  (nat_lit 488, (Obj.mk .none none (Data.fields #[]) #[])) ::
  (nat_lit 491, (Obj.mk .none none (Data.func (FuncData.mk (Str.ofString "moved") (Str.ofString "Pane.moved") (fdP (methS 56 2)) (FuncBody.stmts (fdB (methS 56 2))) (fdS (methS 56 2)) 0 [] .none .none .none .none none .none .none 0)) #[])) ::
  (nat_lit 499, (kO (.type "super") (.fields #[(.ref 496), (.ref 496), (.ref 496)]) #[])) ::
  (nat_lit 500, (kO (.type "builtin_function_or_method") (.fields #[(.builtin "object.__init_subclass__"), (.ref 496)]) #[])) ::
  (nat_lit 502, (Obj.mk .none none (Data.fields #[]) #[])) ::
  (nat_lit 505, (Obj.mk .none none (Data.func (FuncData.mk (Str.ofString "recentered") (Str.ofString "recentered") (fdP (topS 57)) (FuncBody.stmts (fdB (topS 57))) (fdS (topS 57)) 0 [] .none .none .none .none none .none .none 0)) #[])) ::
  (nat_lit 509, (Obj.mk .none none (Data.fields #[]) #[])) ::
  (nat_lit 512, (Obj.mk .none none (Data.func (FuncData.mk (Str.ofString "scrolled") (Str.ofString "scrolled") (fdP (topS 58)) (FuncBody.stmts (fdB (topS 58))) (fdS (topS 58)) 0 [] .none .none .none .none none .none .none 0)) #[])) ::
  (nat_lit 516, (Obj.mk .none none (Data.fields #[]) #[])) ::
  (nat_lit 519, (Obj.mk .none none (Data.func (FuncData.mk (Str.ofString "screen_rows") (Str.ofString "screen_rows") (fdP (topS 60)) (FuncBody.stmts (fdB (topS 60))) (fdS (topS 60)) 0 [] .none .none .none .none none .none .none 0)) #[])) ::
  (nat_lit 524, (Obj.mk .none none (Data.fields #[]) #[])) ::
  (nat_lit 527, (Obj.mk .none none (Data.func (FuncData.mk (Str.ofString "scroll_up") (Str.ofString "scroll_up") (fdP (topS 61)) (FuncBody.stmts (fdB (topS 61))) (fdS (topS 61)) 0 [] .none .none .none .none none .none .none 0)) #[])) ::
  (nat_lit 532, (Obj.mk .none none (Data.fields #[]) #[])) ::
  (nat_lit 535, (Obj.mk .none none (Data.func (FuncData.mk (Str.ofString "scroll_down") (Str.ofString "scroll_down") (fdP (topS 62)) (FuncBody.stmts (fdB (topS 62))) (fdS (topS 62)) 0 [] .none .none .none .none none .none .none 0)) #[])) ::
  (nat_lit 539, (Obj.mk .none none (Data.fields #[]) #[])) ::
  (nat_lit 542, (Obj.mk .none none (Data.func (FuncData.mk (Str.ofString "recenter") (Str.ofString "recenter") (fdP (topS 63)) (FuncBody.stmts (fdB (topS 63))) (fdS (topS 63)) 0 [] .none .none .none .none none .none .none 0)) #[])) ::
  (nat_lit 545, (kO (.type "tuple") (.seq #[] 0) #[])) ::
  (nat_lit 546, (kO (.type "builtin_function_or_method") (.fields #[(.builtin "type.__prepare__"), (.type "type")]) #[])) ::
  (nat_lit 547, (kO (.type "dict") (.dict #[(kE P "__module__" 1023 (kS "emacs.windowscroll" 969)), (kE P "__qualname__" 1025 (kS "Turns" 1024)), (kE P "__firstlineno__" 1027 (kI 362 1026)), (kE P "__init__" 1036 (.ref 559)), (kE P "begin" 1043 (.ref 566)), (kE P "recenter" 1053 (.ref 573)), (kE P "__static_attributes__" 1056 (.ref 574))] 7) #[])) ::
  (nat_lit 548, (kO (.type "tuple") (.seq #[] 0) #[])) ::
  (nat_lit 549, (Obj.mk .none none (Data.fields #[(kI 364 0), (kI 4 0), (.ref 558), (kI 368 0), (kI 4 0), (.ref 565), (kI 371 0), (kI 4 0), (.ref 572)]) #[])) ::
  (nat_lit 550, (kO (.type "code") (.fields #[(kS "Turns" 1018), (kS "Turns" 1019), (kS "/claim/cut.py" 1020), (kI 362 0), (kI 0 0), (kI 0 0), (kI 0 0), (kI 0 0), (.ref 548), (.bool false), (kI 181 0), (.ref 549), .none, .none, .none, .none, (kI 1021 0), (kI 362 0), (kS "/claim/cut.py" 1022)]) #[])) ::
  (nat_lit 551, (Obj.mk (.type "frame") none Data.plain #[(some (.ref 550)), (some (.ref 3)), (some (.ref 547)), none, (some (kS "emacs.windowscroll" 969)), none, (some (.ref 0))])) ::
  (nat_lit 554, (Obj.mk .none none (Data.fields #[]) #[])) ::
  (nat_lit 557, (Obj.mk .none none (Data.func (FuncData.mk (Str.ofString "__init__") (Str.ofString "Turns.__init__") (fdP (methS 65 0)) (FuncBody.stmts (fdB (methS 65 0))) (fdS (methS 65 0)) 0 [] .none .none .none .none none .none .none 0)) #[])) ::
  (nat_lit 561, (Obj.mk .none none (Data.fields #[]) #[])) ::
  (nat_lit 564, (Obj.mk .none none (Data.func (FuncData.mk (Str.ofString "begin") (Str.ofString "Turns.begin") (fdP (methS 65 1)) (FuncBody.stmts (fdB (methS 65 1))) (fdS (methS 65 1)) 0 [] .none .none .none .none none .none .none 0)) #[])) ::
  (nat_lit 568, (Obj.mk .none none (Data.fields #[]) #[])) ::
  (nat_lit 571, (Obj.mk .none none (Data.func (FuncData.mk (Str.ofString "recenter") (Str.ofString "Turns.recenter") (fdP (methS 65 2)) (FuncBody.stmts (fdB (methS 65 2))) (fdS (methS 65 2)) 0 [] .none .none .none .none none .none .none 0)) #[])) ::
  (nat_lit 579, (kO (.type "super") (.fields #[(.ref 576), (.ref 576), (.ref 576)]) #[])) ::
  (nat_lit 580, (kO (.type "builtin_function_or_method") (.fields #[(.builtin "object.__init_subclass__"), (.ref 576)]) #[])) ::
  (nat_lit 582, (Obj.mk .none none (Data.fields #[]) #[])) ::
  (nat_lit 585, (Obj.mk .none none (Data.func (FuncData.mk (Str.ofString "line_to_point") (Str.ofString "line_to_point") (fdP (topS 66)) (FuncBody.stmts (fdB (topS 66))) (fdS (topS 66)) 0 [] .none .none .none .none none .none .none 0)) #[])) ::
  (nat_lit 590, (kO (.type "tuple") (.seq #[] 0) #[])) ::
  (nat_lit 591, (kO (.type "builtin_function_or_method") (.fields #[(.builtin "type.__prepare__"), (.type "type")]) #[])) ::
  (nat_lit 592, (kO (.type "dict") (.dict #[(kE P "__module__" 1094 (kS "emacs.faces" 1075)), (kE P "__qualname__" 1096 (kS "Face" 1095)), (kE P "__firstlineno__" 1098 (kI 385 1097)), (kE P "__init__" 1107 (.ref 605)), (kE P "__static_attributes__" 1110 (.ref 606))] 5) #[])) ::
  (nat_lit 593, (kO (.type "tuple") (.seq #[] 0) #[])) ::
  (nat_lit 594, (Obj.mk .none none (Data.fields #[(kI 387 0), (kI 4 0), (.ref 604)]) #[])) ::
  (nat_lit 595, (kO (.type "code") (.fields #[(kS "Face" 1089), (kS "Face" 1090), (kS "/claim/cut.py" 1091), (kI 385 0), (kI 0 0), (kI 0 0), (kI 0 0), (kI 0 0), (.ref 593), (.bool false), (kI 181 0), (.ref 594), .none, .none, .none, .none, (kI 1092 0), (kI 385 0), (kS "/claim/cut.py" 1093)]) #[])) ::
  (nat_lit 596, (Obj.mk (.type "frame") none Data.plain #[(some (.ref 595)), (some (.ref 3)), (some (.ref 592)), none, (some (kS "emacs.faces" 1075)), none, (some (.ref 0))])) ::
  (nat_lit 600, (Obj.mk .none none (Data.fields #[]) #[])) ::
  (nat_lit 603, (Obj.mk .none none (Data.func (FuncData.mk (Str.ofString "__init__") (Str.ofString "Face.__init__") (fdP (methS 71 0)) (FuncBody.stmts (fdB (methS 71 0))) (fdS (methS 71 0)) 0 [] .none .none .none .none none .none .none 0)) #[])) ::
  (nat_lit 611, (kO (.type "super") (.fields #[(.ref 608), (.ref 608), (.ref 608)]) #[])) ::
  (nat_lit 612, (kO (.type "builtin_function_or_method") (.fields #[(.builtin "object.__init_subclass__"), (.ref 608)]) #[])) ::
  (nat_lit 613, (kO (.type "tuple") (.seq #[] 0) #[])) ::
  (nat_lit 614, (kO (.type "builtin_function_or_method") (.fields #[(.builtin "type.__prepare__"), (.type "type")]) #[])) ::
  (nat_lit 615, (kO (.type "dict") (.dict #[(kE P "__module__" 1125 (kS "emacs.faces" 1075)), (kE P "__qualname__" 1127 (kS "FaceTable" 1126)), (kE P "__firstlineno__" 1129 (kI 390 1128)), (kE P "__init__" 1136 (.ref 626)), (kE P "define" 1145 (.ref 633)), (kE P "merged" 1151 (.ref 638)), (kE P "number_of" 1160 (.ref 645)), (kE P "look_of" 1168 (.ref 652)), (kE P "__static_attributes__" 1172 (.ref 653))] 9) #[])) ::
  (nat_lit 616, (kO (.type "tuple") (.seq #[] 0) #[])) ::
  (nat_lit 617, (Obj.mk .none none (Data.fields #[(kI 392 0), (kI 4 0), (.ref 625), (kI 397 0), (kI 4 0), (.ref 632), (kI 400 0), (kI 4 0), (.ref 637), (kI 411 0), (kI 4 0), (.ref 644), (kI 420 0), (kI 4 0), (.ref 651)]) #[])) ::
  (nat_lit 618, (kO (.type "code") (.fields #[(kS "FaceTable" 1120), (kS "FaceTable" 1121), (kS "/claim/cut.py" 1122), (kI 390 0), (kI 0 0), (kI 0 0), (kI 0 0), (kI 0 0), (.ref 616), (.bool false), (kI 181 0), (.ref 617), .none, .none, .none, .none, (kI 1123 0), (kI 390 0), (kS "/claim/cut.py" 1124)]) #[])) ::
  (nat_lit 619, (Obj.mk (.type "frame") none Data.plain #[(some (.ref 618)), (some (.ref 3)), (some (.ref 615)), none, (some (kS "emacs.faces" 1075)), none, (some (.ref 0))])) ::
  (nat_lit 621, (Obj.mk .none none (Data.fields #[]) #[])) ::
  (nat_lit 624, (Obj.mk .none none (Data.func (FuncData.mk (Str.ofString "__init__") (Str.ofString "FaceTable.__init__") (fdP (methS 72 0)) (FuncBody.stmts (fdB (methS 72 0))) (fdS (methS 72 0)) 0 [] .none .none .none .none none .none .none 0)) #[])) ::
  (nat_lit 628, (Obj.mk .none none (Data.fields #[]) #[])) ::
  (nat_lit 631, (Obj.mk .none none (Data.func (FuncData.mk (Str.ofString "define") (Str.ofString "FaceTable.define") (fdP (methS 72 1)) (FuncBody.stmts (fdB (methS 72 1))) (fdS (methS 72 1)) 0 [] .none .none .none .none none .none .none 0)) #[])) ::
  (nat_lit 635, (Obj.mk .none none (Data.fields #[]) #[])) ::
  (nat_lit 636, (Obj.mk .none none (Data.func (FuncData.mk (Str.ofString "merged") (Str.ofString "FaceTable.merged") (fdP (methS 72 2)) (FuncBody.stmts (fdB (methS 72 2))) (fdS (methS 72 2)) 0 [] .none .none .none .none none .none .none 0)) #[])) ::
  (nat_lit 640, (Obj.mk .none none (Data.fields #[]) #[])) ::
  (nat_lit 643, (Obj.mk .none none (Data.func (FuncData.mk (Str.ofString "number_of") (Str.ofString "FaceTable.number_of") (fdP (methS 72 3)) (FuncBody.stmts (fdB (methS 72 3))) (fdS (methS 72 3)) 0 [] .none .none .none .none none .none .none 0)) #[])) ::
  (nat_lit 647, (Obj.mk .none none (Data.fields #[]) #[])) ::
  (nat_lit 650, (Obj.mk .none none (Data.func (FuncData.mk (Str.ofString "look_of") (Str.ofString "FaceTable.look_of") (fdP (methS 72 4)) (FuncBody.stmts (fdB (methS 72 4))) (fdS (methS 72 4)) 0 [] .none .none .none .none none .none .none 0)) #[])) ::
  (nat_lit 658, (kO (.type "super") (.fields #[(.ref 655), (.ref 655), (.ref 655)]) #[])) ::
  (nat_lit 659, (kO (.type "builtin_function_or_method") (.fields #[(.builtin "object.__init_subclass__"), (.ref 655)]) #[])) ::
  (nat_lit 661, (Obj.mk .none none (Data.fields #[]) #[])) ::
  (nat_lit 664, (Obj.mk .none none (Data.func (FuncData.mk (Str.ofString "_law_draw") (Str.ofString "_law_draw") (fdP (topS 74)) (FuncBody.stmts (fdB (topS 74))) (fdS (topS 74)) 0 [] .none .none .none .none none .none .none 0)) #[])) ::
  (nat_lit 668, (Obj.mk .none none (Data.fields #[]) #[])) ::
  (nat_lit 669, (Obj.mk .none none (Data.func (FuncData.mk (Str.ofString "_law_line_of") (Str.ofString "_law_line_of") (fdP (topS 75)) (FuncBody.stmts (fdB (topS 75))) (fdS (topS 75)) 0 [] .none .none .none .none none .none .none 0)) #[])) ::
  (nat_lit 673, (Obj.mk .none none (Data.fields #[]) #[])) ::
  (nat_lit 676, (Obj.mk .none none (Data.func (FuncData.mk (Str.ofString "_law_scrolled") (Str.ofString "_law_scrolled") (fdP (topS 76)) (FuncBody.stmts (fdB (topS 76))) (fdS (topS 76)) 0 [] .none .none .none .none none .none .none 0)) #[])) ::
  (nat_lit 680, (Obj.mk .none none (Data.fields #[]) #[])) ::
  (nat_lit 683, (Obj.mk .none none (Data.func (FuncData.mk (Str.ofString "_law_told") (Str.ofString "_law_told") (fdP (topS 77)) (FuncBody.stmts (fdB (topS 77))) (fdS (topS 77)) 0 [] .none .none .none .none none .none .none 0)) #[])) ::
  (nat_lit 687, (Obj.mk .none none (Data.fields #[]) #[])) ::
  (nat_lit 688, (Obj.mk .none none (Data.func (FuncData.mk (Str.ofString "law") (Str.ofString "law") (fdP (topS 78)) (FuncBody.stmts (fdB (topS 78))) (fdS (topS 78)) 0 [] .none .none .none .none none .none .none 0)) #[])) ::
  []
noncomputable def cut1 (P : Params) : Frag :=
  (nat_lit 3, (kO (.type "dict") (.dict #[(kE P "__name__" 165 (kS "emacs.signs" 409)), (kE P "__doc__" 166 .none), (kE P "__package__" 167 .none), (kE P "__loader__" 168 (kL P)), (kE P "__spec__" 169 .none), (kE P "__annotations__" 170 (.ref 6)), (kE P "__builtins__" 171 (.ref 4)), (kE P "__file__" 173 (kS "/claim/cut.py" 172)), (kE P "__cached__" 174 .none), (kE P "_wall" 193 (.ref 21)), (kE P "LispSignal" 226 (.ref 38)), (kE P "NOWHERE" 231 (kI (-1) 230)), (kE P "NEWLINE" 233 (kI 10 232)), (kE P "TAB" 235 (kI 9 234)), (kE P "BLANK" 237 (kI 32 236)), (kE P "DELETE" 239 (kI 127 238)), (kE P "CARET" 241 (kI 94 240)), (kE P "BACKSLASH" 243 (kI 92 242)), (kE P "DOLLAR" 245 (kI 36 244)), (kE P "POINT" 247 (kI 46 246)), (kE P "Options" 286 (.ref 59)), (kE P "is_control" 293 (.ref 70)), (kE P "is_raw" 300 (.ref 77)), (kE P "figures_of" 307 (.ref 84)), (kE P "shown_codes" 316 (.ref 91)), (kE P "SHOWN" 320 (kI 0 319)), (kE P "POINTS" 322 (kI 2 321)), (kE P "View" 408 (.ref 158)), (kE P "Signs" 443 (.ref 179)), (kE P "is_break" 451 (.ref 190)), (kE P "hidden_end" 459 (.ref 197)), (kE P "hidden_begin" 467 (.ref 204)), (kE P "shown_place" 476 (.ref 211)), (kE P "string_signs" 482 (.ref 216)), (kE P "string_count" 488 (.ref 221)), (kE P "hidden_signs" 500 (.ref 228)), (kE P "signs_at" 506 (.ref 233)), (kE P "Walk" 570 (.ref 278))] 38) #[])) ::
  (nat_lit 12, (Obj.mk .none none (Data.fields #[(kI 1 0), (kI 0 0), (.ref 20), (kI 5 0), (kI 0 0), (.ref 27), (kI 20 0), (kI 0 0), (.ref 47), (kI 28 0), (kI 0 0), (.ref 69), (kI 30 0), (kI 0 0), (.ref 76), (kI 32 0), (kI 0 0), (.ref 83), (kI 34 0), (kI 0 0), (.ref 90), (kI 47 0), (kI 0 0), (.ref 97), (kI 74 0), (kI 0 0), (.ref 168), (kI 80 0), (kI 0 0), (.ref 189), (kI 82 0), (kI 0 0), (.ref 196), (kI 86 0), (kI 0 0), (.ref 203), (kI 90 0), (kI 0 0), (.ref 210), (kI 95 0), (kI 0 0), (.ref 215), (kI 101 0), (kI 0 0), (.ref 220), (kI 103 0), (kI 0 0), (.ref 227), (kI 109 0), (kI 0 0), (.ref 232), (kI 122 0), (kI 0 0), (.ref 239)]) #[])) ::
  []
noncomputable def cut2 (P : Params) : Frag :=
  (nat_lit 3, (kO (.type "dict") (.dict #[(kE P "__name__" 165 (kS "emacs.scrolling" 855)), (kE P "__doc__" 166 .none), (kE P "__package__" 167 .none), (kE P "__loader__" 168 (kL P)), (kE P "__spec__" 169 .none), (kE P "__annotations__" 170 (.ref 6)), (kE P "__builtins__" 171 (.ref 4)), (kE P "__file__" 173 (kS "/claim/cut.py" 172)), (kE P "__cached__" 174 .none), (kE P "_wall" 193 (.ref 21)), (kE P "LispSignal" 226 (.ref 38)), (kE P "NOWHERE" 231 (kI (-1) 230)), (kE P "NEWLINE" 233 (kI 10 232)), (kE P "TAB" 235 (kI 9 234)), (kE P "BLANK" 237 (kI 32 236)), (kE P "DELETE" 239 (kI 127 238)), (kE P "CARET" 241 (kI 94 240)), (kE P "BACKSLASH" 243 (kI 92 242)), (kE P "DOLLAR" 245 (kI 36 244)), (kE P "POINT" 247 (kI 46 246)), (kE P "Options" 286 (.ref 59)), (kE P "is_control" 293 (.ref 70)), (kE P "is_raw" 300 (.ref 77)), (kE P "figures_of" 307 (.ref 84)), (kE P "shown_codes" 316 (.ref 91)), (kE P "SHOWN" 320 (kI 0 319)), (kE P "POINTS" 322 (kI 2 321)), (kE P "View" 408 (.ref 158)), (kE P "Signs" 443 (.ref 179)), (kE P "is_break" 451 (.ref 190)), (kE P "hidden_end" 459 (.ref 197)), (kE P "hidden_begin" 467 (.ref 204)), (kE P "shown_place" 476 (.ref 211)), (kE P "string_signs" 482 (.ref 216)), (kE P "string_count" 488 (.ref 221)), (kE P "hidden_signs" 500 (.ref 228)), (kE P "signs_at" 506 (.ref 233)), (kE P "Walk" 570 (.ref 278)), (kE P "Row" 630 (.ref 313)), (kE P "put_sign" 640 (.ref 324)), (kE P "end_of_line" 650 (.ref 331)), (kE P "overflow" 664 (.ref 338)), (kE P "folded_row" 682 (.ref 345)), (kE P "cut_row" 700 (.ref 352)), (kE P "laid_row" 712 (.ref 359)), (kE P "laid_rows" 727 (.ref 366)), (kE P "line_begin" 737 (.ref 373)), (kE P "rows_of_line" 750 (.ref 380)), (kE P "own_spot" 759 (.ref 387)), (kE P "index_of" 769 (.ref 394)), (kE P "has_place" 778 (.ref 401)), (kE P "column_in" 788 (.ref 408)), (kE P "cursor_in" 798 (.ref 415)), (kE P "window_begin" 811 (.ref 422)), (kE P "row_ahead" 825 (.ref 429)), (kE P "row_behind" 837 (.ref 436)), (kE P "vertical_motion" 854 (.ref 443)), (kE P "Rules" 889 (.ref 461)), (kE P "Pane" 947 (.ref 496)), (kE P "recentered" 956 (.ref 507)), (kE P "scrolled" 968 (.ref 514))] 61) #[])) ::
  (nat_lit 12, (Obj.mk .none none (Data.fields #[(kI 1 0), (kI 0 0), (.ref 20), (kI 5 0), (kI 0 0), (.ref 27), (kI 20 0), (kI 0 0), (.ref 47), (kI 28 0), (kI 0 0), (.ref 69), (kI 30 0), (kI 0 0), (.ref 76), (kI 32 0), (kI 0 0), (.ref 83), (kI 34 0), (kI 0 0), (.ref 90), (kI 47 0), (kI 0 0), (.ref 97), (kI 74 0), (kI 0 0), (.ref 168), (kI 80 0), (kI 0 0), (.ref 189), (kI 82 0), (kI 0 0), (.ref 196), (kI 86 0), (kI 0 0), (.ref 203), (kI 90 0), (kI 0 0), (.ref 210), (kI 95 0), (kI 0 0), (.ref 215), (kI 101 0), (kI 0 0), (.ref 220), (kI 103 0), (kI 0 0), (.ref 227), (kI 109 0), (kI 0 0), (.ref 232), (kI 122 0), (kI 0 0), (.ref 239), (kI 151 0), (kI 0 0), (.ref 288), (kI 174 0), (kI 0 0), (.ref 323), (kI 177 0), (kI 0 0), (.ref 330), (kI 186 0), (kI 0 0), (.ref 337), (kI 196 0), (kI 0 0), (.ref 344), (kI 214 0), (kI 0 0), (.ref 351), (kI 230 0), (kI 0 0), (.ref 358), (kI 234 0), (kI 0 0), (.ref 365), (kI 244 0), (kI 0 0), (.ref 372), (kI 248 0), (kI 0 0), (.ref 379), (kI 254 0), (kI 0 0), (.ref 386), (kI 257 0), (kI 0 0), (.ref 393), (kI 262 0), (kI 0 0), (.ref 400), (kI 266 0), (kI 0 0), (.ref 407), (kI 271 0), (kI 0 0), (.ref 414), (kI 276 0), (kI 0 0), (.ref 421), (kI 280 0), (kI 0 0), (.ref 428), (kI 288 0), (kI 0 0), (.ref 435), (kI 294 0), (kI 0 0), (.ref 442), (kI 306 0), (kI 0 0), (.ref 449), (kI 311 0), (kI 0 0), (.ref 471), (kI 327 0), (kI 0 0), (.ref 506), (kI 329 0), (kI 0 0), (.ref 513)]) #[])) ::
  []
noncomputable def mergeL : Nat → Nat → Frag → Frag → List Obj
  | 0, _, _, _ => []
  | n + 1, i, (a, o) :: r, t => match Nat.beq a i with
    | true => o :: mergeL n (i + 1) r t
    | false => match t with
      | (_, q) :: t => q :: mergeL n (i + 1) ((a, o) :: r) t
      | [] => []
  | n + 1, i, [], (_, q) :: t => q :: mergeL n (i + 1) [] t
  | _ + 1, _, [], [] => []
noncomputable def cutL : Nat → Nat → Frag → List Obj → List Obj
  | 0, _, _, _ => []
  | _ + 1, _, _, [] => []
  | n + 1, i, [], o :: t => o :: cutL n (i + 1) [] t
  | n + 1, i, (a, q) :: r, o :: t => match Nat.beq a i with
    | true => q :: cutL n (i + 1) r t
    | false => o :: cutL n (i + 1) ((a, q) :: r) t
noncomputable def evens : List Obj → List Obj
  | a :: _ :: t => a :: evens t
  | l => l
noncomputable def odds : List Obj → List Obj
  | _ :: b :: t => b :: odds t
  | _ => []
noncomputable def build : Nat → List Obj → BT
  | 0, _ => .nil
  | _ + 1, [] => .nil
  | n + 1, o :: t => .node o (build n (evens t)) (build n (odds t))
noncomputable def HL (P : Params) : List Obj := mergeL 691 0 (hd.heap_39 P) (restL P)
noncomputable abbrev ann0 : Option Value := some (.ref 6)
noncomputable abbrev pos0 : Pos := ⟨0, 0, 0, 0⟩
noncomputable def r46 (w : World) (os : OsState) := topGo treeTable PT w 11 ann0 12 ⟨boot_heap w.params, #[], boot_drawn, boot_toks, os⟩ (topStub PT)
noncomputable def t46 (w : World) (os : OsState) : Shared × Thread := match r46 w os with | some x => x | none => (⟨boot_heap w.params, #[], boot_drawn, boot_toks, os⟩, topStub PT)
noncomputable def env0 (w : World) (os : OsState) : Env := match (t46 w os).2.code with | .body _ e => e | _ => default
noncomputable abbrev code0 (w : World) (os : OsState) : Code := .body (behindTheImports PT) (env0 w os)
theorem hA (w : World) (os : OsState) : r46 w os = some ((t46 w os).1, ⟨denote treeTable (code0 w os), code0 w os, pos0, [topFrame pos0]⟩) := by kernel_rfl
noncomputable def r47 (w : World) (os : OsState) := segRun treeTable PT w 11 ann0 1 1 (t46 w os).1 (blockOf (behindTheImports PT) (env0 w os) (code0 w os) pos0 [topFrame pos0])
noncomputable def s47 (w : World) (os : OsState) : Shared := match r47 w os with | some x => x.2.1 | none => (t46 w os).1
noncomputable def p47 (w : World) (os : OsState) : Pos := match r47 w os with | some x => x.2.2.2 | none => pos0
theorem hB (w : World) (os : OsState) : r47 w os = some (.next, s47 w os, code0 w os, p47 w os) := by kernel_rfl
noncomputable def T47 (w : World) (os : OsState) : SharedT := ⟨build 5 (s47 w os).heap.objs.toList, (s47 w os).heap.objs.size, (s47 w os).heap.life, (s47 w os).gens, (s47 w os).drawn, (s47 w os).toks, os⟩
theorem hT (w : World) (os : OsState) : (T47 w os).abs = s47 w os := by kernel_rfl
noncomputable def lifeB (P : Params) : Life := (boot_heap P).life
noncomputable def TA (w : World) (os : OsState) : SharedT := ⟨build 10 (cutL 283 0 (cut1 w.params) (HL w.params)), 283, lifeB w.params, #[], boot_drawn, 571, os⟩
noncomputable def TB (w : World) (os : OsState) : SharedT := ⟨build 11 (cutL 515 0 (cut2 w.params) (HL w.params)), 515, lifeB w.params, #[], boot_drawn, 969, os⟩
noncomputable def TC (w : World) (os : OsState) : SharedT := ⟨build 11 (HL w.params), 691, lifeB w.params, #[], boot_drawn, 1228, os⟩
noncomputable def sts1 : List Stmt := (behindTheImports PT).take 33
noncomputable def sts2 : List Stmt := ((behindTheImports PT).drop 33).take 26
noncomputable def sts3 : List Stmt := (behindTheImports PT).drop 59
noncomputable abbrev posA : Pos := ⟨122, 0, 149, 40⟩
noncomputable abbrev posB : Pos := ⟨329, 0, 336, 37⟩
noncomputable abbrev posC : Pos := ⟨447, 0, 485, 109⟩
theorem run1 (w : World) (os : OsState) : segRunT treeTable PT w 11 ann0 1 2600 (T47 w os) (piecesOf sts1 (env0 w os) (code0 w os) (p47 w os) [topFrame pos0]) = some (.next, TA w os, code0 w os, posA) := by
  rw [PySem.W.Fast.te10110043849684766642, PySem.W.Fast.te14364793385576792824]
  kernel_rfl
theorem run2 (w : World) (os : OsState) : segRunT treeTable PT w 11 ann0 1 2600 (TA w os) (piecesOf sts2 (env0 w os) (code0 w os) posA [topFrame pos0]) = some (.next, TB w os, code0 w os, posB) := by
  rw [PySem.W.Fast.te10110043849684766642, PySem.W.Fast.te14364793385576792824]
  kernel_rfl
theorem run3 (w : World) (os : OsState) : segRunT treeTable PT w 11 ann0 1 2600 (TB w os) (piecesOf sts3 (env0 w os) (code0 w os) posB [topFrame pos0]) = some (.next, TC w os, code0 w os, posC) := by
  rw [PySem.W.Fast.te10110043849684766642, PySem.W.Fast.te14364793385576792824]
  kernel_rfl
noncomputable def SC (w : World) (os : OsState) : Shared := ⟨⟨(HL w.params).toArray, lifeB w.params⟩, #[], boot_drawn, 1228, os⟩
theorem hC (w : World) (os : OsState) : (TC w os).abs = SC w os := by kernel_rfl
theorem hFin (w : World) (os : OsState) : topRun treeTable PT w 11 ann0 2 (SC w os) ⟨doneF .next, code0 w os, posC, [topFrame pos0]⟩ = some (SC w os) := by kernel_rfl
noncomputable def okM : Nat → Nat → Frag → Frag → Bool
  | _, _, [], _ => true
  | 0, _, _ :: _, _ => false
  | n + 1, i, (a, o) :: r, t => match Nat.beq a i with
    | true => !o.isFreed && okM n (i + 1) r t
    | false => match t with
      | _ :: t => okM n (i + 1) ((a, o) :: r) t
      | [] => false
theorem sub_step {a i : Nat} (h : i + 1 ≤ a) : a - i = (a - (i + 1)) + 1 := by omega
theorem merge_at : ∀ (n i : Nat) (K R : Frag), okM n i K R = true → ∀ p ∈ K, i ≤ p.1 ∧ (mergeL n i K R)[p.1 - i]? = some p.2 ∧ p.2.isFreed = false := by
  intro n
  induction n with
  | zero =>
    intro i K R h p hp
    cases K with
    | nil => cases hp
    | cons q r => cases h
  | succ n ih =>
    intro i K R h p hp
    cases K with
    | nil => cases hp
    | cons q r =>
      obtain ⟨a, o⟩ := q
      have up : ∀ {x : Obj} {l : List Obj}, i + 1 ≤ p.1 → l[p.1 - (i + 1)]? = some p.2 → i ≤ p.1 ∧ (x :: l)[p.1 - i]? = some p.2 := fun {x l} h1 h2 => by
        refine ⟨Nat.le_of_succ_le h1, ?_⟩
        exact (congrArg (fun k => (x :: l)[k]?) (sub_step h1)).trans h2
      cases e : Nat.beq a i with
      | true =>
        have m : mergeL (n + 1) i ((a, o) :: r) R = o :: mergeL n (i + 1) r R := by
          show (match Nat.beq a i with | true => _ | false => _) = _
          rw [e]
        have h : (match Nat.beq a i with | true => !o.isFreed && okM n (i + 1) r R | false => _) = true := h
        rw [e] at h
        obtain ⟨h1, h2⟩ := Bool.and_eq_true_iff.mp h
        rw [m]
        rcases List.mem_cons.mp hp with rfl | hp
        · have ea : a = i := Nat.eq_of_beq_eq_true e
          refine ⟨Nat.le_of_eq ea.symm, ?_, by simpa using h1⟩
          show (o :: _)[a - i]? = some o
          rw [ea, Nat.sub_self]; rfl
        · obtain ⟨k1, k2, k3⟩ := ih _ _ _ h2 p hp
          obtain ⟨u1, u2⟩ := up (x := o) k1 k2
          exact ⟨u1, u2, k3⟩
      | false =>
        cases R with
        | nil =>
          have h : (match Nat.beq a i with | true => !o.isFreed && okM n (i + 1) r [] | false => false) = true := h
          rw [e] at h
          cases h
        | cons b t =>
          obtain ⟨b, q⟩ := b
          have h : (match Nat.beq a i with | true => !o.isFreed && okM n (i + 1) r ((b, q) :: t) | false => okM n (i + 1) ((a, o) :: r) t) = true := h
          rw [e] at h
          have m : mergeL (n + 1) i ((a, o) :: r) ((b, q) :: t) = q :: mergeL n (i + 1) ((a, o) :: r) t := by
            show (match Nat.beq a i with | true => _ | false => _) = _
            rw [e]
          rw [m]
          obtain ⟨k1, k2, k3⟩ := ih _ _ _ h p hp
          obtain ⟨u1, u2⟩ := up (x := q) k1 k2
          exact ⟨u1, u2, k3⟩
theorem merge_ok (P : Params) : okM 691 0 (hd.heap_39 P) (restL P) = true := by kernel_rfl
theorem HL_get (w : World) (os : OsState) : ∀ p ∈ hd.heap_39 w.params, (SC w os).heap.get? p.1 = some p.2 := fun p hp => by
  obtain ⟨_, h, f⟩ := merge_at 691 0 _ _ (merge_ok w.params) p hp
  refine Heap.get?_some_iff.mpr ⟨?_, f⟩
  show ((HL w.params).toArray)[p.1]? = some p.2
  rw [List.getElem?_toArray]
  exact h
end

end
noncomputable section
set_option maxHeartbeats 8000000 in
theorem said_all : OpenLaw.wellSaid PySem.Challenge.rw_ok0069_01 = true := by
  unfold OpenLaw.wellSaid
  repeat' (with_reducible apply look_both)
  any_goals (unfold OpenRow.wellSaid; repeat' (with_reducible apply look_both))
  any_goals (unfold OpenRow.partSaid; repeat' (with_reducible apply look_both))
  any_goals (unfold looksOpen; repeat' (with_reducible apply look_both))
  all_goals decide +kernel

end
noncomputable section
noncomputable section
/-! what the text leaves, looked at -/
noncomputable def keep0 : List Nat := [0,2,4,5,6,7,8,9,10,11,12,13,14,15,16,17,19,20,21,23,24,25,26,27,28,29,30,31,32,34,35,36,37,38,39,40,41,43,44,45,46,47,48,49,50,51,52,53,55,56,57,58,60,63,64,65,66,68,69,70,71,72,74,75,76,77,78]
noncomputable def q0 : Program := view PT keep0
noncomputable def loose0 : List PySem.Str := [(Str.ofString "scroll_up"), (Str.ofString "scroll_down"), (Str.ofString "recenter_windowscroll"), (Str.ofString "Face")]
noncomputable def Xt0 : Shared → Bool := fun s => xlAt q0 [] s && recOk (RowW.records (OpenRow.toRowW (OpenLaw.row PySem.Challenge.rw_ok0069_01))) s
noncomputable def stat0 (w : World) (s : Shared) : Bool := staticsOk (importedModules PT.main.body) (boot_heap w.params) s.heap && namesBound PT s.heap && gensDone s && laidKept (boot_heap w.params) s.heap
noncomputable def adsK : List Addr := [2,3,15,17,18,20,21,22,29,31,32,34,35,36,37,38,39,49,50,52,53,55,56,57,58,59,60,61,64,66,67,69,70,71,73,74,76,77,78,80,81,83,84,85,87,88,90,91,99,100,102,103,105,106,107,109,110,112,113,114,116,117,119,120,121,123,124,126,127,128,130,131,133,134,135,137,138,140,141,142,144,145,147,148,149,151,152,154,155,156,157,158,159,160,170,172,173,175,176,177,178,179,180,181,184,186,187,189,190,191,193,194,196,197,198,200,201,203,204,205,207,208,210,211,212,215,216,217,220,221,222,224,225,227,228,229,232,233,241,243,244,246,247,248,250,251,253,254,255,257,258,260,261,262,264,265,267,268,269,271,272,274,275,276,277,278,279,280,290,292,293,295,296,297,299,300,302,303,304,306,307,309,310,311,312,313,314,315,318,320,321,323,324,325,327,328,330,331,332,334,335,337,338,339,341,342,344,345,346,348,349,351,352,353,355,356,358,359,360,362,363,365,366,367,369,370,372,373,374,376,377,379,380,381,383,384,386,387,388,390,391,393,394,395,397,398,400,401,402,404,405,407,408,409,411,412,414,415,416,418,419,421,422,423,425,426,428,429,430,432,433,435,436,437,439,440,442,443,451,452,454,455,457,458,459,460,461,462,463,473,475,476,478,479,480,482,483,485,486,487,489,490,492,493,494,495,496,497,498,501,503,504,506,507,508,510,511,513,514,515,517,518,520,521,522,523,525,526,528,529,530,531,533,534,536,537,538,540,541,543,544,552,553,555,556,558,559,560,562,563,565,566,567,569,570,572,573,574,575,576,577,578,581,583,584,586,587,588,589,597,598,599,601,602,604,605,606,607,608,609,610,620,622,623,625,626,627,629,630,632,633,634,637,638,639,641,642,644,645,646,648,649,651,652,653,654,655,656,657,660,662,663,665,666,667,670,671,672,674,675,677,678,679,681,682,684,685,686,689,690]
theorem adsK_eq (P : Params) : adsK = (hd.heap_39 P).map (·.1) := by kernel_rfl
noncomputable abbrev kH : Hook := kHook hd.heap_39 adsK adsK_eq
theorem look3 (w : World) (os : OsState) : adsK.map (SC w os).heap.get? = (hd.heap_39 w.params).map fun p => some p.2 := by
  rw [adsK_eq w.params, List.map_map]
  exact List.map_congr_left fun p hp => HL_get w os p hp
noncomputable def hdp {α β : Type} : α × β → α | (a, _) => a
noncomputable def tlp {α β : Type} : α × β → β | (_, b) => b
theorem look_a (w : World) (os : OsState) : (openSeen q0 loose0 (importedModules PT.main.body) Xt0 true (SC w os)).1 = hdp (openGood q0 loose0) := by kernel_rfl
theorem look_b (w : World) (os : OsState) : (openSeen q0 loose0 (importedModules PT.main.body) Xt0 true (SC w os)).2.1 = hdp (tlp (openGood q0 loose0)) := by kernel_rfl
theorem look_c (w : World) (os : OsState) : (openSeen q0 loose0 (importedModules PT.main.body) Xt0 true (SC w os)).2.2.1 = hdp (tlp (tlp (openGood q0 loose0))) := by kernel_rfl
theorem look_d (w : World) (os : OsState) : (openSeen q0 loose0 (importedModules PT.main.body) Xt0 true (SC w os)).2.2.2 = tlp (tlp (tlp (openGood q0 loose0))) := by kernel_rfl
theorem four {α β γ δ : Type} {x y : α × β × γ × δ} (a : x.1 = hdp y) (b : x.2.1 = hdp (tlp y)) (c : x.2.2.1 = hdp (tlp (tlp y))) (d : x.2.2.2 = tlp (tlp (tlp y))) : x = y := by
  obtain ⟨x1, x2, x3, x4⟩ := x
  obtain ⟨y1, y2, y3, y4⟩ := y
  cases a; cases b; cases c; cases d; rfl
theorem look2 (w : World) (os : OsState) : openSeen q0 loose0 (importedModules PT.main.body) Xt0 true (SC w os) = openGood q0 loose0 := four (look_a w os) (look_b w os) (look_c w os) (look_d w os)
theorem look1 (w : World) (os : OsState) : stat0 w (SC w os) = true := by kernel_rfl
theorem sts_all : behindTheImports PT = sts1 ++ (sts2 ++ (sts3 ++ [])) := by kernel_rfl
theorem topAll (w : World) (os : OsState) : topRun treeTable PT w 11 ann0 (12 + (1 + (2600 + (2600 + (2600 + 2))))) ⟨boot_heap w.params, #[], boot_drawn, boot_toks, os⟩ (topStub PT) = some (SC w os) := by
  have e1 := segRun_of (run1 w os)
  have e2 := segRun_of (run2 w os)
  have e3 := segRun_of (run3 w os)
  rw [hT] at e1
  rw [hC] at e3
  have k := piece_app e1 (piece_app e2 (piece_app e3 (piece_nil (hFin w os))))
  exact go_top (hA w os) (piece_block (hB w os) ((congrArg (fun b => topRun treeTable PT w 11 ann0 (2600 + (2600 + (2600 + 2))) (s47 w os) (restOf b (env0 w os) (code0 w os) (p47 w os) [topFrame pos0])) sts_all).trans k))
theorem bind_at {α β : Type} {a : Option α} {f : α → Option β} {x : α} {y : β} (e : a = some x) (t : f x = some y) : a.bind f = some y := by subst e; exact t
theorem left_of (all : ∀ (w : World) (os : OsState), ∃ s, topRun treeTable PT w 11 ann0 (12 + (1 + (2600 + (2600 + (2600 + 2))))) ⟨boot_heap w.params, #[], boot_drawn, boot_toks, os⟩ (topStub PT) = some s ∧ stat0 w s = true ∧
    openSeen q0 loose0 (importedModules PT.main.body) Xt0 true s = openGood q0 loose0 ∧ adsK.map s.heap.get? = (hd.heap_39 w.params).map fun p => some p.2) : LeftO PT q0 loose0 Xt0 kH.obs kH.val 9730 := fun w => by
  obtain ⟨⟨h, gs, d, k, os⟩, e, e'⟩ := Option.map_eq_some_iff.mp (boot_open (p := PT) (N := 9730) (by kernel_rfl) (by decide) (fun s => by kernel_rfl) w)
  obtain ⟨rfl, rfl, rfl, rfl⟩ : h = boot_heap w.params ∧ gs = #[] ∧ d = boot_drawn ∧ k = boot_toks := by simpa using e'
  obtain ⟨s, r, l1, l2, l3⟩ := all w os
  have r := topRun_mono (9730 - (12 + (1 + (2600 + (2600 + (2600 + 2)))))) _ _ _ _ r
  have t : topFrom treeTable PT w 9730 ⟨boot_heap w.params, #[], boot_drawn, boot_toks, os⟩ = some s := by
    unfold topFrom
    dsimp only
    rw [show ((boot_heap w.params).isNs mainGlobals && (#[] : Array GenState).size == 0) = true by kernel_rfl, show (boot_heap w.params).objs.size = 11 by kernel_rfl, show (boot_heap w.params).nsMap mainGlobals "__annotations__" = ann0 by kernel_rfl, r]
    show (match stat0 w s with | true => _ | false => _) = _
    rw [l1]
  have u : openEnds treeTable PT w 9730 = some s := bind_at e t
  exact (congrArg (Option.map _) u).trans (congrArg some (Prod.ext l2 l3))
theorem left : LeftO PT q0 loose0 Xt0 kH.obs kH.val 9730 := left_of fun w os => ⟨SC w os, topAll w os, look1 w os, look2 w os, look3 w os⟩
end

end
noncomputable section
--WALK
/-! the law's statement -/
noncomputable abbrev rowL : RowW := OpenRow.toRowW (OpenLaw.row PySem.Challenge.rw_ok0069_01)
noncomputable def dL : DefRec × List (Str × Expr) := (defOf q0 (Str.ofString "law")).get (by kernel_rfl)
theorem dL_name : dL.1.name = (Str.ofString "law") := by kernel_rfl
set_option maxHeartbeats 8000000 in
theorem law_walk : WalkO q0 loose0 (XL q0 []) kH.says rowL dL.1 dL.2 fun f vs => PySem.call f vs := by
  intro w s₀ s₁ mg mb G Y fa o pm cd doc dV kV ho hd hcd hD hmg hg args vals as hpre hlay hrd hwl hlo
  have KX := kIn_of Y
  clear hd hcd hD ho
  rw [dL_name] at hmg
  refine Ground.open G ?_
  intro T B D TE TW
  clear G Y B D TE TW
  obtain rfl : fa = 690 := by
    have e := mg_of KX T.g (n := (Str.ofString "law")) (v := .ref 690) (by k_is)
    rw [hmg] at e
    cases e; rfl
  wrow_args hpre hlay hrd hwl hlo
  rename_i ns _ _ _ _ _ _ _ a vs _ hL _ _ _ hI _ hn _
  obtain ⟨H, gs, dr, tk, os⟩ := s₁
  dsimp only at KX T hg hL
  subst hg
  have hk : ns.length ≤ 63 := by omega
  have hlen : vs.length = ns.length := hI.length
  have hi : ∀ {vs : List Value} {ns : List Int}, IntsAre vs ns → ∀ (j : Nat) v, vs[j]? = some v → ∃ t, v = .int (ns.getD j 0) t := by
    intro vs ns h
    induction h with
    | nil => exact fun j v e => (nil_get e).elim
    | cons n t _ ih =>
      intro j v e
      cases j with
      | zero => cases e; exact ⟨_, rfl⟩
      | succ j => exact ih j v e
  refine wpAny_mono (a_law (g := ⟨rowL.prog, q0, looseW q0 loose0, ExcName.means s₀.heap, mg, mb⟩) (d := fun j => ns.getD j 0) (A := callerA) (h0 := H) (tk := tk) (gs := #[]) (dr := dr) (os := os) (F := fun b o => H.get? b = some o) (cs := []) (v := .ref a) hk
    ⟨fun b o e => e, ⟨fun p hp => (nomatch hp), .nil, rfl, fun i mo e => (nil_get e).elim⟩, ⟨⟨_, _, below_caller H⟩, KX, T, by decide, by decide, rfl⟩, .cons (.obj fun h hF => ⟨vs, hL.at fun o e => hF a o e, hlen, hi hI⟩) .nil⟩ rfl
    (fun v s' => GoodWG rowL.claim (classAt s₀.heap) (ExcName.means s₀.heap) [ofPy (PyData.list (List.map PyData.int ns))] ⟨H, #[], dr, tk, os⟩ (Except.ok (Flow.ret v)) s') fun h' tk' keep => ?_) (fun _ _ x => x) (fun _ _ x => x.elim)
  refine GoodW.toG ⟨.inl ⟨.bool true, .bool true, [], rfl, fun cls => ?_, .bool true, ?_, fun _ => ⟨.nil, fun a ha => nomatch ha⟩⟩, keep, rfl, rfl⟩
  · rfl
  · generalize [ofPy (PyData.list (List.map PyData.int ns))] = as
    kernel_rfl
set_option maxHeartbeats 8000000 in
theorem last : PySem.Challenge.rw_ok0069_01.Holds :=
  holds_law said_all fun said => PySem.W.holds_open (q := q0) (loose := loose0) (Xt := Xt0) (XP := XL q0 []) (Yf := kH.obs) (Ya := kH.val) (YP := kH.says) (d := dL.1) (kwd := dL.2) (N := 9730) left kH.of kH.keeps (fun s e => xl_of s (Bool.and_eq_true_iff.mp e).1) XL.keeps (by kernel_rfl) (by kernel_rfl) (by kernel_rfl) (fun s e => recFacts_of (Bool.and_eq_true_iff.mp e).2) (by rfl) said (by decide +kernel) ⟨rfl, rfl, rfl, rfl, rfl, by decide +kernel⟩
    ⟨[.list [.int 3, .int 1]], by decide +kernel, by decide +kernel⟩ law_walk

end
end Mine
set_option maxRecDepth 100000 in
set_option maxHeartbeats 8000000 in
theorem PySem.Challenge.cw_ok0069_01_holds : PySem.Challenge.rw_ok0069_01.Holds := by
  exact Mine.last
