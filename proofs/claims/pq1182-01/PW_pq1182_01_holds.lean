import PyProof.Rows.All
import Wide.All
import OpenK.AllK
import Wide.FinOn
import Lean
import PySem.Challenge.RW_pq1182_01
set_option Elab.async false
set_option autoImplicit false
set_option genInjectivity false
set_option genSizeOf false
section
open PySem PySem.W PyProof.Rows
set_option maxRecDepth 100000
namespace Mine
noncomputable def stAt (i : Nat) : Option Stmt := PySem.Challenge.pw_pq1182_01.main.body[i]?
noncomputable def stIn (i j : Nat) : Option Stmt := match stAt i with
  | some (.ClassDef _ _ _ b ..) => b[j]?
  | _ => none
noncomputable def fnO (s : Option Stmt) (q : String) (d m c : Value) : Obj := match s with
  | some (.FunctionDef n a b _ _ _ sc ..) => { cls := .type "function", data := .func { name := n, qualname := Str.ofString q, params := a, body := .stmts b, scope := sc, globals := 3, closure := [], defaults := d, kwdefaults := .none, pyModule := m, code := c } }
  | _ => { cls := .type "function", data := .seq #[] }
noncomputable def kd (P : Params) (x : String) (t : Tok) (v : Value) : DictEntry := ⟨PyData.keyHash P (Str.ofString x), .str (Str.ofString x) t, v⟩
noncomputable def kHeap (P : Params) : Frag := [
  (3, { cls := .type "dict", data := .dict #[kd P "__name__" 165 (.str (Str.ofString "law_pq1182_01") 392), kd P "__doc__" 166 (.none), kd P "__package__" 167 (.none), kd P "__loader__" 168 (.builtin "__main__.__loader__#opaque"), kd P "__spec__" 169 (.none), kd P "__annotations__" 170 (.ref 6), kd P "__builtins__" 171 (.ref 4), kd P "__file__" 173 (.str (Str.ofString "/claim/cut.py") 172), kd P "__cached__" 174 (.none), kd P "_wall" 193 (.ref 21), kd P "clamp" 204 (.ref 28), kd P "SIXEL_FIRST" 208 (.int 63 207), kd P "SIXEL_LAST" 210 (.int 126 209), kd P "SIXEL_BAND" 212 (.int 6 211), kd P "SIXEL_COLOURS" 214 (.int 256 213), kd P "SIXEL_MOST" 216 (.int 1000 215), kd P "SIXEL_GREATEST" 218 (.int 32767 217), kd P "SIXEL_REPEAT" 220 (.int 33 219), kd P "SIXEL_SIZE" 222 (.int 34 221), kd P "SIXEL_COLOUR" 224 (.int 35 223), kd P "SIXEL_BACK" 226 (.int 36 225), kd P "SIXEL_NEXT_BAND" 228 (.int 45 227), kd P "SIXEL_SEMICOLON" 230 (.int 59 229), kd P "SIXEL_NO_POINT" 233 (.int (-1) 232), kd P "SIXEL_MOST_NUMBERS" 235 (.int 8 234), kd P "Raster" 283 (.ref 54), kd P "first_sixel_colour" 291 (.ref 65), kd P "sixel_parts_of_hue" 297 (.ref 70), kd P "SixelReader" 380 (.ref 118), kd P "read_sixel" 391 (.ref 130), kd P "_law_palette" 442 (.ref 147), kd P "_law_next" 450 (.ref 154), kd P "_law_figures" 457 (.ref 161), kd P "_law_piece" 463 (.ref 166), kd P "_law_numbers" 469 (.ref 171), kd P "_law_sign" 480 (.ref 178), kd P "_law_command" 486 (.ref 183), kd P "_law_read" 499 (.ref 190), kd P "_law_shown" 505 (.ref 195), kd P "law" 511 (.ref 200)] 40 }),
  (27, { cls := .type "code", data := .fields #[.str (Str.ofString "clamp") 196, .str (Str.ofString "clamp") 197, .str (Str.ofString "/claim/cut.py") 198, .int 5 0, .int 3 0, .int 0 0, .int 0 0, .int 3 0, .ref 22, .bool true, .int 181 0, .ref 23, .none, .ref 24, .ref 25, .ref 26, .int 202 0, .int 5 0, .str (Str.ofString "/claim/cut.py") 203] }),
  (28, fnO (stAt 2) "clamp" (.none) (.str (Str.ofString "termcore.base") 194) (.ref 27)),
  (36, { cls := .type "tuple", data := .seq #[.int 1 248, .int 1 249] }),
  (37, { cls := .type "tuple", data := .seq #[.ref 36] }),
  (43, { cls := .type "code", data := .fields #[.str (Str.ofString "__init__") 250, .str (Str.ofString "Raster.__init__") 251, .str (Str.ofString "/claim/cut.py") 252, .int 24 0, .int 6 0, .int 0 0, .int 0 0, .int 3 0, .ref 38, .bool true, .int 181 0, .ref 39, .none, .ref 40, .ref 41, .ref 42, .int 259 0, .int 24 0, .str (Str.ofString "/claim/cut.py") 260] }),
  (44, fnO (stIn 18 0) "Raster.__init__" (.ref 37) (.str (Str.ofString "termcore.sixel") 205) (.ref 43)),
  (53, { cls := .type "dict", data := .dict #[kd P "__module__" 243 (.str (Str.ofString "termcore.sixel") 205), kd P "__firstlineno__" 247 (.int 22 246), kd P "__init__" 261 (.ref 44), kd P "colour_at" 270 (.ref 51), kd P "__static_attributes__" 276 (.ref 52), kd P "__dict__" 278 (.ref 55), kd P "__weakref__" 280 (.ref 56), kd P "__doc__" 281 (.none)] 4 }),
  (54, { cls := .type "type", data := .cls { name := Str.ofString "Raster", bases := [.type "object"], mro := [.ref 54, .type "object"], ns := 53, qualname := Str.ofString "Raster" }, slots := #[none, none, some (.str (Str.ofString "Raster") 236), some (.str (Str.ofString "Raster") 244), some (.builtin "object.__new__"), some (.bool true)] }),
  (64, { cls := .type "code", data := .fields #[.str (Str.ofString "first_sixel_colour") 284, .str (Str.ofString "first_sixel_colour") 285, .str (Str.ofString "/claim/cut.py") 286, .int 33 0, .int 1 0, .int 0 0, .int 0 0, .int 3 0, .ref 59, .bool true, .int 181 0, .ref 60, .none, .ref 61, .ref 62, .ref 63, .int 289 0, .int 33 0, .str (Str.ofString "/claim/cut.py") 290] }),
  (65, fnO (stAt 19) "first_sixel_colour" (.none) (.str (Str.ofString "termcore.sixel") 205) (.ref 64)),
  (69, { cls := .type "code", data := .fields #[.str (Str.ofString "sixel_parts_of_hue") 292, .str (Str.ofString "sixel_parts_of_hue") 293, .str (Str.ofString "/claim/cut.py") 294, .int 36 0, .int 3 0, .int 0 0, .int 0 0, .int 3 0, .ref 66, .bool true, .int 181 0, .ref 67, .none, .none, .none, .ref 68, .int 295 0, .int 36 0, .str (Str.ofString "/claim/cut.py") 296] }),
  (70, fnO (stAt 20) "sixel_parts_of_hue" (.none) (.str (Str.ofString "termcore.sixel") 205) (.ref 69)),
  (83, { cls := .type "code", data := .fields #[.str (Str.ofString "__init__") 310, .str (Str.ofString "SixelReader.__init__") 311, .str (Str.ofString "/claim/cut.py") 312, .int 46 0, .int 2 0, .int 0 0, .int 0 0, .int 3 0, .ref 78, .bool true, .int 181 0, .ref 79, .none, .ref 80, .ref 81, .ref 82, .int 315 0, .int 46 0, .str (Str.ofString "/claim/cut.py") 316] }),
  (84, fnO (stIn 21 0) "SixelReader.__init__" (.none) (.str (Str.ofString "termcore.sixel") 205) (.ref 83)),
  (90, { cls := .type "code", data := .fields #[.str (Str.ofString "put") 318, .str (Str.ofString "SixelReader.put") 319, .str (Str.ofString "/claim/cut.py") 320, .int 61 0, .int 2 0, .int 0 0, .int 0 0, .int 3 0, .ref 85, .bool true, .int 181 0, .ref 86, .none, .ref 87, .ref 88, .ref 89, .int 323 0, .int 61 0, .str (Str.ofString "/claim/cut.py") 324] }),
  (91, fnO (stIn 21 1) "SixelReader.put" (.none) (.str (Str.ofString "termcore.sixel") 205) (.ref 90)),
  (97, { cls := .type "code", data := .fields #[.str (Str.ofString "end_command") 326, .str (Str.ofString "SixelReader.end_command") 327, .str (Str.ofString "/claim/cut.py") 328, .int 81 0, .int 1 0, .int 0 0, .int 0 0, .int 3 0, .ref 92, .bool true, .int 181 0, .ref 93, .none, .ref 94, .ref 95, .ref 96, .int 333 0, .int 81 0, .str (Str.ofString "/claim/cut.py") 334] }),
  (98, fnO (stIn 21 2) "SixelReader.end_command" (.none) (.str (Str.ofString "termcore.sixel") 205) (.ref 97)),
  (102, { cls := .type "code", data := .fields #[.str (Str.ofString "tell_colour") 336, .str (Str.ofString "SixelReader.tell_colour") 337, .str (Str.ofString "/claim/cut.py") 338, .int 96 0, .int 3 0, .int 0 0, .int 0 0, .int 3 0, .ref 99, .bool true, .int 181 0, .ref 100, .none, .none, .none, .ref 101, .int 339 0, .int 96 0, .str (Str.ofString "/claim/cut.py") 340] }),
  (103, fnO (stIn 21 3) "SixelReader.tell_colour" (.none) (.str (Str.ofString "termcore.sixel") 205) (.ref 102)),
  (109, { cls := .type "code", data := .fields #[.str (Str.ofString "draw") 342, .str (Str.ofString "SixelReader.draw") 343, .str (Str.ofString "/claim/cut.py") 344, .int 102 0, .int 2 0, .int 0 0, .int 0 0, .int 3 0, .ref 104, .bool true, .int 181 0, .ref 105, .none, .ref 106, .ref 107, .ref 108, .int 351 0, .int 102 0, .str (Str.ofString "/claim/cut.py") 352] }),
  (110, fnO (stIn 21 4) "SixelReader.draw" (.none) (.str (Str.ofString "termcore.sixel") 205) (.ref 109)),
  (114, { cls := .type "code", data := .fields #[.str (Str.ofString "raster") 354, .str (Str.ofString "SixelReader.raster") 355, .str (Str.ofString "/claim/cut.py") 356, .int 114 0, .int 2 0, .int 0 0, .int 0 0, .int 3 0, .ref 111, .bool true, .int 181 0, .ref 112, .none, .none, .none, .ref 113, .int 357 0, .int 114 0, .str (Str.ofString "/claim/cut.py") 358] }),
  (115, fnO (stIn 21 5) "SixelReader.raster" (.none) (.str (Str.ofString "termcore.sixel") 205) (.ref 114)),
  (117, { cls := .type "dict", data := .dict #[kd P "__module__" 305 (.str (Str.ofString "termcore.sixel") 205), kd P "__firstlineno__" 309 (.int 44 308), kd P "__init__" 317 (.ref 84), kd P "put" 325 (.ref 91), kd P "end_command" 335 (.ref 98), kd P "tell_colour" 341 (.ref 103), kd P "draw" 353 (.ref 110), kd P "raster" 359 (.ref 115), kd P "__static_attributes__" 373 (.ref 116), kd P "__dict__" 375 (.ref 119), kd P "__weakref__" 377 (.ref 120), kd P "__doc__" 378 (.none)] 4 }),
  (118, { cls := .type "type", data := .cls { name := Str.ofString "SixelReader", bases := [.type "object"], mro := [.ref 118, .type "object"], ns := 117, qualname := Str.ofString "SixelReader" }, slots := #[none, none, some (.str (Str.ofString "SixelReader") 298), some (.str (Str.ofString "SixelReader") 306), some (.builtin "object.__new__"), some (.bool true)] }),
  (123, { cls := .type "tuple", data := .seq #[.int 1000 215, .bool false] }),
  (129, { cls := .type "code", data := .fields #[.str (Str.ofString "read_sixel") 381, .str (Str.ofString "read_sixel") 382, .str (Str.ofString "/claim/cut.py") 383, .int 132 0, .int 3 0, .int 0 0, .int 0 0, .int 3 0, .ref 124, .bool true, .int 181 0, .ref 125, .none, .ref 126, .ref 127, .ref 128, .int 389 0, .int 132 0, .str (Str.ofString "/claim/cut.py") 390] }),
  (130, fnO (stAt 22) "read_sixel" (.ref 123) (.str (Str.ofString "termcore.sixel") 205) (.ref 129)),
  (131, { cls := .type "tuple", data := .seq #[.int 0 394, .int 0 395, .int 0 396] }),
  (132, { cls := .type "tuple", data := .seq #[.int 20 397, .int 20 398, .int 80 399] }),
  (133, { cls := .type "tuple", data := .seq #[.int 80 400, .int 13 401, .int 13 402] }),
  (134, { cls := .type "tuple", data := .seq #[.int 20 403, .int 80 404, .int 20 405] }),
  (135, { cls := .type "tuple", data := .seq #[.int 80 406, .int 20 407, .int 80 408] }),
  (136, { cls := .type "tuple", data := .seq #[.int 20 409, .int 80 410, .int 80 411] }),
  (137, { cls := .type "tuple", data := .seq #[.int 80 412, .int 80 413, .int 20 414] }),
  (138, { cls := .type "tuple", data := .seq #[.int 53 415, .int 53 416, .int 53 417] }),
  (139, { cls := .type "tuple", data := .seq #[.int 26 418, .int 26 419, .int 26 420] }),
  (140, { cls := .type "tuple", data := .seq #[.int 33 421, .int 33 422, .int 60 423] }),
  (141, { cls := .type "tuple", data := .seq #[.int 60 424, .int 26 425, .int 26 426] }),
  (142, { cls := .type "tuple", data := .seq #[.int 33 427, .int 60 428, .int 33 429] }),
  (143, { cls := .type "tuple", data := .seq #[.int 60 430, .int 33 431, .int 60 432] }),
  (144, { cls := .type "tuple", data := .seq #[.int 33 433, .int 60 434, .int 60 435] }),
  (145, { cls := .type "tuple", data := .seq #[.int 60 436, .int 60 437, .int 33 438] }),
  (146, { cls := .type "tuple", data := .seq #[.int 80 439, .int 80 440, .int 80 441] }),
  (147, { cls := .type "tuple", data := .seq #[.ref 131, .ref 132, .ref 133, .ref 134, .ref 135, .ref 136, .ref 137, .ref 138, .ref 139, .ref 140, .ref 141, .ref 142, .ref 143, .ref 144, .ref 145, .ref 146] }),
  (153, { cls := .type "code", data := .fields #[.str (Str.ofString "_law_next") 443, .str (Str.ofString "_law_next") 444, .str (Str.ofString "/claim/cut.py") 445, .int 139 0, .int 2 0, .int 0 0, .int 0 0, .int 3 0, .ref 148, .bool true, .int 181 0, .ref 149, .none, .ref 150, .ref 151, .ref 152, .int 448 0, .int 139 0, .str (Str.ofString "/claim/cut.py") 449] }),
  (154, fnO (stAt 25) "_law_next" (.none) (.str (Str.ofString "law_pq1182_01") 392) (.ref 153)),
  (160, { cls := .type "code", data := .fields #[.str (Str.ofString "_law_figures") 451, .str (Str.ofString "_law_figures") 452, .str (Str.ofString "/claim/cut.py") 453, .int 141 0, .int 1 0, .int 0 0, .int 0 0, .int 3 0, .ref 155, .bool true, .int 181 0, .ref 156, .none, .ref 157, .ref 158, .ref 159, .int 455 0, .int 141 0, .str (Str.ofString "/claim/cut.py") 456] }),
  (161, fnO (stAt 26) "_law_figures" (.none) (.str (Str.ofString "law_pq1182_01") 392) (.ref 160)),
  (165, { cls := .type "code", data := .fields #[.str (Str.ofString "_law_piece") 458, .str (Str.ofString "_law_piece") 459, .str (Str.ofString "/claim/cut.py") 460, .int 143 0, .int 1 0, .int 0 0, .int 0 0, .int 3 0, .ref 162, .bool true, .int 181 0, .ref 163, .none, .none, .none, .ref 164, .int 461 0, .int 143 0, .str (Str.ofString "/claim/cut.py") 462] }),
  (166, fnO (stAt 27) "_law_piece" (.none) (.str (Str.ofString "law_pq1182_01") 392) (.ref 165)),
  (170, { cls := .type "code", data := .fields #[.str (Str.ofString "_law_numbers") 464, .str (Str.ofString "_law_numbers") 465, .str (Str.ofString "/claim/cut.py") 466, .int 159 0, .int 2 0, .int 0 0, .int 0 0, .int 3 0, .ref 167, .bool true, .int 181 0, .ref 168, .none, .none, .none, .ref 169, .int 467 0, .int 159 0, .str (Str.ofString "/claim/cut.py") 468] }),
  (171, fnO (stAt 28) "_law_numbers" (.none) (.str (Str.ofString "law_pq1182_01") 392) (.ref 170)),
  (177, { cls := .type "code", data := .fields #[.str (Str.ofString "_law_sign") 470, .str (Str.ofString "_law_sign") 471, .str (Str.ofString "/claim/cut.py") 472, .int 165 0, .int 2 0, .int 0 0, .int 0 0, .int 3 0, .ref 172, .bool true, .int 181 0, .ref 173, .none, .ref 174, .ref 175, .ref 176, .int 478 0, .int 165 0, .str (Str.ofString "/claim/cut.py") 479] }),
  (178, fnO (stAt 29) "_law_sign" (.none) (.str (Str.ofString "law_pq1182_01") 392) (.ref 177)),
  (182, { cls := .type "code", data := .fields #[.str (Str.ofString "_law_command") 481, .str (Str.ofString "_law_command") 482, .str (Str.ofString "/claim/cut.py") 483, .int 177 0, .int 4 0, .int 0 0, .int 0 0, .int 3 0, .ref 179, .bool true, .int 181 0, .ref 180, .none, .none, .none, .ref 181, .int 484 0, .int 177 0, .str (Str.ofString "/claim/cut.py") 485] }),
  (183, fnO (stAt 30) "_law_command" (.none) (.str (Str.ofString "law_pq1182_01") 392) (.ref 182)),
  (189, { cls := .type "code", data := .fields #[.str (Str.ofString "_law_read") 487, .str (Str.ofString "_law_read") 488, .str (Str.ofString "/claim/cut.py") 489, .int 189 0, .int 2 0, .int 0 0, .int 0 0, .int 3 0, .ref 184, .bool true, .int 181 0, .ref 185, .none, .ref 186, .ref 187, .ref 188, .int 497 0, .int 189 0, .str (Str.ofString "/claim/cut.py") 498] }),
  (190, fnO (stAt 31) "_law_read" (.none) (.str (Str.ofString "law_pq1182_01") 392) (.ref 189)),
  (194, { cls := .type "code", data := .fields #[.str (Str.ofString "_law_shown") 500, .str (Str.ofString "_law_shown") 501, .str (Str.ofString "/claim/cut.py") 502, .int 203 0, .int 2 0, .int 0 0, .int 0 0, .int 3 0, .ref 191, .bool true, .int 181 0, .ref 192, .none, .none, .none, .ref 193, .int 503 0, .int 203 0, .str (Str.ofString "/claim/cut.py") 504] }),
  (195, fnO (stAt 32) "_law_shown" (.none) (.str (Str.ofString "law_pq1182_01") 392) (.ref 194)),
  (199, { cls := .type "code", data := .fields #[.str (Str.ofString "law") 506, .str (Str.ofString "law") 507, .str (Str.ofString "/claim/cut.py") 508, .int 214 0, .int 1 0, .int 0 0, .int 0 0, .int 3 0, .ref 196, .bool true, .int 181 0, .ref 197, .none, .none, .none, .ref 198, .int 509 0, .int 214 0, .str (Str.ofString "/claim/cut.py") 510] }),
  (200, fnO (stAt 33) "law" (.none) (.str (Str.ofString "law_pq1182_01") 392) (.ref 199))]
noncomputable def kAddrs : List Addr := [3, 27, 28, 36, 37, 43, 44, 53, 54, 64, 65, 69, 70, 83, 84, 90, 91, 97, 98, 102, 103, 109, 110, 114, 115, 117, 118, 123, 129, 130, 131, 132, 133, 134, 135, 136, 137, 138, 139, 140, 141, 142, 143, 144, 145, 146, 147, 153, 154, 160, 161, 165, 166, 170, 171, 177, 178, 182, 183, 189, 190, 194, 195, 199, 200]
end Mine
end
section
open PySem PySem.W PyProof.Rows
namespace Mine
noncomputable abbrev PH := Addr → Option Obj
noncomputable def Sub (f g : PH) : Prop := ∀ a o, f a = some o → g a = some o
theorem Sub.refl (f : PH) : Sub f f := fun _ _ h => h
theorem Sub.trans {f g h : PH} (x : Sub f g) (y : Sub g h) : Sub f h := fun a o e => y a o (x a o e)
inductive AV where
  | none
  | bool (b : Bool)
  | int (i : Int)
  | str (x : Str)
  | bytes (b : Array UInt8)
  | ref (a : Addr)
  | builtin (id : String)
  | type (n : String)
  | tup (xs : List AV)
mutual
inductive Is (f : PH) : AV → Value → Prop
  | none : Is f .none .none
  | bool (b : Bool) : Is f (.bool b) (.bool b)
  | int (i : Int) (t : Tok) : Is f (.int i) (.int i t)
  | str (x : Str) (t : Tok) : Is f (.str x) (.str x t)
  | bytes (b : Array UInt8) (t : Tok) : Is f (.bytes b) (.bytes b t)
  | ref (a : Addr) : Is f (.ref a) (.ref a)
  | builtin (id : String) : Is f (.builtin id) (.builtin id)
  | type (n : String) : Is f (.type n) (.type n)
  | tup {a : Addr} {xs : List AV} {vs : List Value} {n : Nat} : f a = some { cls := .type "tuple", dict := .none, data := .seq vs.toArray n, slots := #[] } → IsAll f xs vs → Is f (.tup xs) (.ref a)
inductive IsAll (f : PH) : List AV → List Value → Prop
  | nil : IsAll f [] []
  | cons {x : AV} {v : Value} {xs : List AV} {vs : List Value} : Is f x v → IsAll f xs vs → IsAll f (x :: xs) (v :: vs)
end
theorem IsAll.nilE {f : PH} {vs : List Value} (h : IsAll f [] vs) : vs = [] := by cases h; rfl
theorem IsAll.consE {f : PH} {x : AV} {xs : List AV} {vs : List Value} (h : IsAll f (x :: xs) vs) : ∃ v r, vs = v :: r ∧ Is f x v ∧ IsAll f xs r := by
  cases h with | cons a t => exact ⟨_, _, rfl, a, t⟩
theorem Is.mono {f g : PH} (s : Sub f g) {x : AV} {v : Value} (h : Is f x v) : Is g x v := by
  refine Is.rec (motive_1 := fun x v _ => Is g x v) (motive_2 := fun xs vs _ => IsAll g xs vs) .none .bool .int .str .bytes .ref .builtin .type ?_ .nil ?_ h
  · intro a xs vs n e _ ih; exact .tup (s _ _ e) ih
  · intro x v xs vs _ _ a b; exact .cons a b
theorem IsAll.mono {f g : PH} (s : Sub f g) {xs : List AV} {vs : List Value} (h : IsAll f xs vs) : IsAll g xs vs := by
  induction xs generalizing vs with
  | nil => rw [h.nilE]; exact .nil
  | cons x xs ih => obtain ⟨v, r, rfl, a, t⟩ := h.consE; exact .cons (a.mono s) (ih t)
theorem IsAll.length {f : PH} {xs : List AV} {vs : List Value} (h : IsAll f xs vs) : vs.length = xs.length := by
  induction xs generalizing vs with
  | nil => cases h; rfl
  | cons x xs ih => cases h with | cons a t => simp [ih t]
theorem IsAll.get {f : PH} {xs : List AV} {vs : List Value} {i : Nat} {x : AV} (h : IsAll f xs vs) (e : xs[i]? = some x) : ∃ v, vs[i]? = some v ∧ Is f x v := by
  induction xs generalizing vs i with
  | nil => cases e
  | cons y xs ih =>
    obtain ⟨v, r, rfl, a, t⟩ := h.consE
    cases i with
    | zero => cases e; exact ⟨_, rfl, a⟩
    | succ i => exact ih (i := i) t e
theorem IsAll.append {f : PH} {xs ys : List AV} {vs ws : List Value} (h : IsAll f xs vs) (k : IsAll f ys ws) : IsAll f (xs ++ ys) (vs ++ ws) := by
  induction xs generalizing vs with
  | nil => rw [h.nilE]; exact k
  | cons x xs ih => obtain ⟨v, r, rfl, a, t⟩ := h.consE; exact .cons a (ih t)
theorem IsAll.split {f : PH} {xs ys : List AV} {vs : List Value} (h : IsAll f (xs ++ ys) vs) : ∃ us ws, vs = us ++ ws ∧ IsAll f xs us ∧ IsAll f ys ws := by
  induction xs generalizing vs with
  | nil => exact ⟨[], _, rfl, .nil, h⟩
  | cons x xs ih =>
    obtain ⟨v, r, rfl, a, t⟩ := h.consE
    obtain ⟨us, ws, e, h1, h2⟩ := ih t
    exact ⟨_ :: us, ws, by rw [e]; rfl, .cons a h1, h2⟩
theorem IsAll.set {f : PH} {xs : List AV} {vs : List Value} {i : Nat} {x : AV} {v : Value} (h : IsAll f xs vs) (k : Is f x v) : IsAll f (xs.set i x) (vs.set i v) := by
  induction xs generalizing vs i with
  | nil => rw [h.nilE]; exact .nil
  | cons y xs ih =>
    obtain ⟨v, r, rfl, a, t⟩ := h.consE
    cases i with
    | zero => exact .cons k t
    | succ i => exact .cons a (ih t)
theorem IsAll.take {f : PH} {xs : List AV} {vs : List Value} (n : Nat) (h : IsAll f xs vs) : IsAll f (xs.take n) (vs.take n) := by
  induction xs generalizing vs n with
  | nil => rw [h.nilE, List.take_nil, List.take_nil]; exact .nil
  | cons y xs ih =>
    obtain ⟨v, r, rfl, a, t⟩ := h.consE
    cases n with
    | zero => exact .nil
    | succ n => exact .cons a (ih n t)
theorem IsAll.drop {f : PH} {xs : List AV} {vs : List Value} (n : Nat) (h : IsAll f xs vs) : IsAll f (xs.drop n) (vs.drop n) := by
  induction xs generalizing vs n with
  | nil => rw [h.nilE, List.drop_nil, List.drop_nil]; exact .nil
  | cons y xs ih =>
    obtain ⟨v, r, rfl, a, t⟩ := h.consE
    cases n with
    | zero => exact .cons a t
    | succ n => exact ih n t
theorem IsAll.reverse {f : PH} {xs : List AV} {vs : List Value} (h : IsAll f xs vs) : IsAll f xs.reverse vs.reverse := by
  induction xs generalizing vs with
  | nil => rw [h.nilE]; exact .nil
  | cons x xs ih =>
    obtain ⟨v, r, rfl, a, t⟩ := h.consE
    rw [List.reverse_cons, List.reverse_cons]; exact (ih t).append (.cons a .nil)
theorem IsAll.ints {f : PH} {ns : List Int} {vs : List Value} (h : IsAll f (ns.map .int) vs) : IntsAre vs ns := by
  induction ns generalizing vs with
  | nil => rw [h.nilE]; exact .nil
  | cons n ns ih => obtain ⟨v, r, rfl, a, t⟩ := h.consE; cases a; exact .cons _ _ (ih t)
theorem IsAll.of_ints {f : PH} {ns : List Int} {vs : List Value} (h : IntsAre vs ns) : IsAll f (ns.map .int) vs := by
  induction h with
  | nil => exact .nil
  | cons _ _ _ ih => exact .cons (.int _ _) ih
structure Ent where
  a : Addr
  P : PH → Obj → Prop
  mono : ∀ {f g : PH} {o : Obj}, Sub f g → P f o → P g o
noncomputable def Ent.holds (f : PH) (h : Heap) (e : Ent) : Prop := f e.a = none ∧ ∃ o, h.get? e.a = some o ∧ e.P f o
structure Cx where
  w : World
  h0 : Heap
  os : OsState
  mg : Str → Option Value
  mb : Str → Option Value
  kin : (kHeap w.params).In h0
  g : h0.Ns mainGlobals mg
  b : h0.Ns builtinsNs mb
  builtins : ∀ x : Str, x ≠ "__name__" → mb x = bootBuiltins x
  nolimit : h0.NoLimit
  nodigits : ∃ mc, h0.Ns cStatics mc ∧ mc "sys.int_max_str_digits" = none
  seer : h0.NoSeer
noncomputable abbrev Cx.M (C : Cx) : Model := model PySem.Challenge.pw_pq1182_01 C.w
structure St (C : Cx) (f : PH) (l : List Ent) (s : Shared) : Prop where
  base : Sub C.h0.get? f
  live : Sub f s.heap.get?
  cells : ∀ e ∈ l, e.holds f s.heap
  nodup : (l.map (·.a)).Nodup
  gens : s.gens = #[]
  os : s.os = C.os
noncomputable abbrev NoE : Value → Shared → Prop := fun _ _ => False
noncomputable def Post {α β : Type} (C : Cx) (rel : PH → β → α → Prop) (f : PH) (R : List Ent) (Φ : β → List Ent → Prop) (v : α) (s : Shared) : Prop :=
  ∃ f' x l', Sub f f' ∧ St C f' (l' ++ R) s ∧ rel f' x v ∧ Φ x l'
noncomputable def Wr {α β : Type} (C : Cx) (A : Around) (rel : PH → β → α → Prop) (l : List Ent) (t : Sem α) (Φ : β → List Ent → Prop) : Prop :=
  ∀ R f s, St C f (l ++ R) s → wpAny C.M A t (Post C rel f R Φ) NoE s
noncomputable abbrev W (C : Cx) (A : Around) (l : List Ent) (t : Sem Value) (Φ : AV → List Ent → Prop) : Prop := Wr C A Is l t Φ
noncomputable def isEq {α : Type} (_ : PH) (x y : α) : Prop := x = y
noncomputable abbrev WB (C : Cx) (A : Around) (l : List Ent) (t : Sem Bool) (Φ : Bool → List Ent → Prop) : Prop := Wr C A isEq l t Φ
noncomputable abbrev WU (C : Cx) (A : Around) (l : List Ent) (t : Sem Unit) (Φ : Unit → List Ent → Prop) : Prop := Wr C A isEq l t Φ
noncomputable def W1 {α β : Type} (C : Cx) (A : Around) (rel : PH → β → α → Prop) (l : List Ent) (x : AV) (t : Value → Sem α) (Φ : β → List Ent → Prop) : Prop :=
  ∀ R f s v, St C f (l ++ R) s → Is f x v → wpAny C.M A (t v) (Post C rel f R Φ) NoE s
noncomputable def W2 {α β : Type} (C : Cx) (A : Around) (rel : PH → β → α → Prop) (l : List Ent) (x y : AV) (t : Value → Value → Sem α) (Φ : β → List Ent → Prop) : Prop :=
  ∀ R f s v u, St C f (l ++ R) s → Is f x v → Is f y u → wpAny C.M A (t v u) (Post C rel f R Φ) NoE s
noncomputable def W3 {α β : Type} (C : Cx) (A : Around) (rel : PH → β → α → Prop) (l : List Ent) (x y z : AV) (t : Value → Value → Value → Sem α) (Φ : β → List Ent → Prop) : Prop :=
  ∀ R f s v u w, St C f (l ++ R) s → Is f x v → Is f y u → Is f z w → wpAny C.M A (t v u w) (Post C rel f R Φ) NoE s
noncomputable def Wn {α β : Type} (C : Cx) (A : Around) (rel : PH → β → α → Prop) (l : List Ent) (xs : List AV) (t : List Value → Sem α) (Φ : β → List Ent → Prop) : Prop :=
  ∀ R f s vs, St C f (l ++ R) s → IsAll f xs vs → wpAny C.M A (t vs) (Post C rel f R Φ) NoE s
inductive AF where
  | next
  | brk
  | cont
  | ret (x : AV)
inductive IsF (f : PH) : AF → Flow → Prop
  | next : IsF f .next .next
  | brk : IsF f .brk .brk
  | cont : IsF f .cont .cont
  | ret {x : AV} {v : Value} : Is f x v → IsF f (.ret x) (.ret v)
noncomputable abbrev WF (C : Cx) (A : Around) (l : List Ent) (t : Sem Flow) (Φ : AF → List Ent → Prop) : Prop := Wr C A IsF l t Φ
section
variable {α β γ δ : Type} {C : Cx} {A : Around} {rel : PH → β → α → Prop} {rel' : PH → δ → γ → Prop} {l : List Ent}
theorem St.get {f : PH} {l : List Ent} {s : Shared} (S : St C f l s) {e : Ent} (h : e ∈ l) : ∃ o, s.heap.get? e.a = some o ∧ e.P f o := (S.cells e h).2
theorem St.cons {f : PH} {l : List Ent} {s : Shared} (S : St C f l s) (s' : Shared) (h : s'.heap = s.heap) (g : s'.gens = s.gens) (o : s'.os = s.os) : St C f l s' :=
  ⟨S.base, h ▸ S.live, h ▸ S.cells, S.nodup, g.trans S.gens, o.trans S.os⟩
theorem St.toks {f : PH} {l : List Ent} {s : Shared} (S : St C f l s) (tk : Nat) : St C f l { s with toks := tk } := S.cons _ rfl rfl rfl
theorem St.sub {f : PH} {l l' : List Ent} {s : Shared} (S : St C f l s) (h : ∀ e ∈ l', e ∈ l) (n : (l'.map (·.a)).Nodup) : St C f l' s :=
  ⟨S.base, S.live, fun e he => S.cells e (h e he), n, S.gens, S.os⟩
theorem St.sublist {f : PH} {l l' : List Ent} {s : Shared} (S : St C f l s) (h : l'.Sublist l) : St C f l' s :=
  S.sub (fun _ he => h.subset he) (S.nodup.sublist (h.map _))
theorem St.perm {f : PH} {l l' : List Ent} {s : Shared} (S : St C f l s) (h : l.Perm l') : St C f l' s :=
  S.sub (fun _ he => h.symm.subset he) ((h.map _).nodup_iff.mp S.nodup)
theorem Wr.mono {t : Sem α} {Φ Ψ : β → List Ent → Prop} (h : Wr C A rel l t Φ) (k : ∀ x l', Φ x l' → Ψ x l') : Wr C A rel l t Ψ :=
  fun R f s S => wpAny_mono (h R f s S) (fun _ _ ⟨f', x, l', a, b, c, d⟩ => ⟨f', x, l', a, b, c, k x l' d⟩) fun _ _ e => e
theorem Post.up {f f' : PH} {R : List Ent} {Φ : β → List Ent → Prop} {v : α} {s : Shared} (a : Sub f f') (h : Post C rel f' R Φ v s) : Post C rel f R Φ v s :=
  let ⟨f'', y, l'', a', b', c', d'⟩ := h; ⟨f'', y, l'', a.trans a', b', c', d'⟩
theorem wp_up {f f' : PH} {R : List Ent} {Φ : β → List Ent → Prop} {t : Sem α} {s : Shared} (a : Sub f f') (h : wpAny C.M A t (Post C rel f' R Φ) NoE s) : wpAny C.M A t (Post C rel f R Φ) NoE s :=
  wpAny_mono h (fun _ _ p => p.up a) fun _ _ e => e
end
end Mine
end
section
open PySem PySem.W PyProof.Rows
namespace Mine
noncomputable def NsIs (f : PH) : List Str → List (Option AV) → (Str → Option Value) → Prop
  | [], [], _ => True
  | n :: ns, v :: vs, m => (∀ x, v = some x → ∃ u, m n = some u ∧ Is f x u) ∧ NsIs f ns vs m
  | _, _, _ => False
theorem NsIs.mono {f g : PH} (s : Sub f g) : ∀ {ns : List Str} {vs : List (Option AV)} {m : Str → Option Value}, NsIs f ns vs m → NsIs g ns vs m
  | [], [], _, _ => trivial
  | _ :: _, _ :: _, _, h => ⟨fun x e => let ⟨u, a, b⟩ := h.1 x e; ⟨u, a, b.mono s⟩, NsIs.mono s h.2⟩
  | [], _ :: _, _, h => h.elim
  | _ :: _, [], _, h => h.elim
noncomputable def ns (L : Addr) (names : List Str) (vals : List (Option AV)) : Ent where
  a := L
  P := fun f o => ∃ m es ep, o.data = .dict es ep ∧ StrKeys es ∧ (∀ x, nsFind es x = m x) ∧ NsIs f names vals m ∧ names.Nodup
  mono := fun s h => by obtain ⟨m, es, ep, a, b, c, d, e⟩ := h; exact ⟨m, es, ep, a, b, c, d.mono s, e⟩
noncomputable def lst (a : Addr) (xs : List AV) : Ent where
  a := a
  P := fun f o => ∃ vs n, o = { cls := .type "list", dict := none, data := .seq vs n, slots := #[] } ∧ IsAll f xs vs.toList
  mono := fun s ⟨vs, n, h3, h4⟩ => ⟨vs, n, h3, h4.mono s⟩
inductive PairsAre {K : Type} (f : PH) : List (K × AV) → List (K × Value) → Prop
  | nil : PairsAre f [] []
  | cons {k : K} {x : AV} {v : Value} {xs : List (K × AV)} {vs : List (K × Value)} : Is f x v → PairsAre f xs vs → PairsAre f ((k, x) :: xs) ((k, v) :: vs)
theorem PairsAre.mono {K : Type} {f g : PH} (s : Sub f g) {xs : List (K × AV)} {vs : List (K × Value)} (h : PairsAre f xs vs) : PairsAre g xs vs := by
  induction h with
  | nil => exact .nil
  | cons a _ ih => exact .cons (a.mono s) ih
theorem PairsAre.keys {K : Type} {f : PH} {xs : List (K × AV)} {vs : List (K × Value)} (h : PairsAre f xs vs) : vs.map (·.1) = xs.map (·.1) := by
  induction h with
  | nil => rfl
  | cons _ _ ih => simp [ih]
theorem PairsAre.length {K : Type} {f : PH} {xs : List (K × AV)} {vs : List (K × Value)} (h : PairsAre f xs vs) : vs.length = xs.length := by
  induction h with
  | nil => rfl
  | cons _ _ ih => simp [ih]
noncomputable abbrev prg : Program := PySem.Challenge.pw_pq1182_01
noncomputable def dic {K : Type} [DecidableEq K] (w : World) (knd : KeyKind prg w K) (a : Addr) (kv : List (K × AV)) (oe : Option Nat := none) : Ent where
  a := a
  P := fun f o => (a == sysModules) = false ∧ ∃ kvs es ep, o.ExactDict ∧ o.data = .dict es ep ∧ KeysOf knd es ∧ Pairs knd es.toList kvs ∧ (kvs.map (·.1)).Nodup ∧ PairsAre f kv kvs ∧ ∀ e, oe = some e → ep = e
  mono := fun s h => by obtain ⟨h, kvs, es, ep, h1, h2, h3, h4, h5, h6, h7⟩ := h; exact ⟨h, kvs, es, ep, h1, h2, h3, h4, h5, h6.mono s, h7⟩
noncomputable abbrev dicI (C : Cx) (a : Addr) (kv : List (Int × AV)) (oe : Option Nat := none) : Ent := dic C.w (intKind prg C.w) a kv oe
noncomputable abbrev dicS (C : Cx) (a : Addr) (kv : List (Str × AV)) (oe : Option Nat := none) : Ent := dic C.w (strKind prg C.w) a kv oe
noncomputable def rng (r : Addr) (a b : Int) : Ent where
  a := r
  P := fun _ o => ∃ t u v, o = { cls := .type "range", dict := none, data := .fields #[.int a t, .int b u, .int 1 v], slots := #[] }
  mono := fun _ h => h
noncomputable def cel (a : Addr) (x : Option AV) : Ent where
  a := a
  P := fun f o => ∃ v, o.data = .cell v ∧ ∀ y, x = some y → ∃ u, v = some u ∧ Is f y u
  mono := fun s ⟨v, h, k⟩ => ⟨v, h, fun y e => let ⟨u, a, b⟩ := k y e; ⟨u, a, b.mono s⟩⟩
noncomputable def ins (a C d : Addr) : Ent where
  a := a
  P := fun _ o => o.cls = .ref C ∧ o.dict = some d ∧ o.data = .plain ∧ o.slots = #[]
  mono := fun _ h => h
inductive Upd1 (e e' : Ent) : List Ent → List Ent → Prop
  | head {r} : Upd1 e e' (e :: r) (e' :: r)
  | tail {p r r'} : Upd1 e e' r r' → Upd1 e e' (p :: r) (p :: r')
theorem Upd1.split {e e' : Ent} {l l' : List Ent} (h : Upd1 e e' l l') : ∃ u v, l = u ++ e :: v ∧ l' = u ++ e' :: v := by
  induction h with
  | head => exact ⟨[], _, rfl, rfl⟩
  | tail _ ih => obtain ⟨u, v, rfl, rfl⟩ := ih; exact ⟨_ :: u, v, rfl, rfl⟩
theorem Upd1.mid {e e' : Ent} {R : List Ent} : ∀ {l : List Ent}, Upd1 e e' (l ++ e :: R) (l ++ e' :: R)
  | [] => .head
  | _ :: _ => .tail Upd1.mid
theorem Upd1.mem {e e' : Ent} {l l' : List Ent} (h : Upd1 e e' l l') : e ∈ l := by
  obtain ⟨u, v, rfl, _⟩ := h.split; simp
section
variable {C : Cx} {f : PH} {l l' R : List Ent} {s : Shared}
theorem St.lt (S : St C f l s) {e : Ent} (h : e ∈ l) : e.a < s.heap.objs.size := let ⟨_, ho, _⟩ := S.get h; Heap.lt_size ho
theorem St.flt (S : St C f l s) {a : Addr} {o : Obj} (h : f a = some o) : a < s.heap.objs.size := Heap.lt_size (S.live _ _ h)
theorem St.upd {e e' : Ent} {h' : Heap} {s' : Shared} (S : St C f (l ++ R) s) (U : Upd1 e e' l l') (ha : e'.a = e.a) (hs : Heap.SameBut e.a s.heap h')
    (ho : ∃ o, h'.get? e.a = some o ∧ e'.P f o) (hh : s'.heap = h') (hg : s'.gens = s.gens) (hos : s'.os = s.os) : St C f (l' ++ R) s' := by
  obtain ⟨u, v, rfl, rfl⟩ := U.split
  subst hh
  have hmem : e ∈ (u ++ e :: v) ++ R := by simp
  have hfe := (S.cells e hmem).1
  have hnd : ((u ++ e' :: v ++ R).map (·.a)) = ((u ++ e :: v ++ R).map (·.a)) := by simp [ha]
  refine ⟨S.base, fun a o hf => ?_, fun x hx => ?_, hnd ▸ S.nodup, hg.trans S.gens, hos.trans S.os⟩
  · have : a ≠ e.a := by rintro rfl; rw [hfe] at hf; cases hf
    rw [hs.2 a this]; exact S.live a o hf
  · have hn := S.nodup
    have hx' : x = e' ∨ (x ∈ (u ++ e :: v ++ R) ∧ x.a ≠ e.a) := by
      simp only [List.append_assoc, List.cons_append, List.mem_append, List.mem_cons] at hx
      simp only [List.append_assoc, List.cons_append, List.map_append, List.map_cons] at hn
      rw [List.nodup_append] at hn
      obtain ⟨n1, n2, n3⟩ := hn
      rw [List.nodup_cons] at n2
      rcases hx with h | h | h | h
      · refine .inr ⟨by simp [h], fun q => n3 x.a (List.mem_map.mpr ⟨x, h, rfl⟩) e.a (by simp) q⟩
      · exact .inl h
      · refine .inr ⟨by simp [h], fun q => n2.1 ?_⟩
        rw [← q]; simp only [List.mem_append, List.mem_map]; exact .inl ⟨x, h, rfl⟩
      · refine .inr ⟨by simp [h], fun q => n2.1 ?_⟩
        rw [← q]; simp only [List.mem_append, List.mem_map]; exact .inr ⟨x, h, rfl⟩
    rcases hx' with rfl | ⟨hx', hne⟩
    · exact ⟨ha ▸ hfe, by rw [ha]; exact ho⟩
    · obtain ⟨a, o, b, c⟩ := S.cells x hx'
      exact ⟨a, o, (hs.2 _ hne).trans b, c⟩
theorem St.updL {e e' : Ent} {h' : Heap} {s' : Shared} (S : St C f l s) (U : Upd1 e e' l l') (ha : e'.a = e.a) (hs : Heap.SameBut e.a s.heap h')
    (ho : ∃ o, h'.get? e.a = some o ∧ e'.P f o) (hh : s'.heap = h') (hg : s'.gens = s.gens) (hos : s'.os = s.os) : St C f l' s' := by
  have := St.upd (R := []) (by rw [List.append_nil]; exact S) U ha hs ho hh hg hos
  rwa [List.append_nil] at this
theorem St.gone {e : Ent} {h' : Heap} {s' : Shared} (S : St C f (l ++ e :: R) s) (hk : Heap.ExtBut e.a s.heap h') (hh : s'.heap = h') (hg : s'.gens = s.gens) (hos : s'.os = s.os) : St C f (l ++ R) s' := by
  subst hh
  have hn := S.nodup
  simp only [List.map_append, List.map_cons] at hn
  rw [List.nodup_append] at hn
  obtain ⟨n1, n2, n3⟩ := hn
  rw [List.nodup_cons] at n2
  have hfe := (S.cells e (by simp)).1
  refine ⟨S.base, fun a o hf => hk a o (by rintro rfl; rw [hfe] at hf; cases hf) (S.live a o hf), fun x hx => ?_, ?_, hg.trans S.gens, hos.trans S.os⟩
  · obtain ⟨a, o, b, c⟩ := S.cells x (by simp only [List.mem_append, List.mem_cons] at hx ⊢; rcases hx with h | h <;> simp [h])
    refine ⟨a, o, hk _ _ (fun q => ?_) b, c⟩
    rcases List.mem_append.mp hx with h | h
    · exact n3 x.a (List.mem_map.mpr ⟨x, h, rfl⟩) e.a (by simp) q
    · exact n2.1 (q ▸ List.mem_map.mpr ⟨x, h, rfl⟩)
  · exact S.nodup.sublist ((List.Sublist.append (List.Sublist.refl l) (List.sublist_cons_self e R)).map _)
theorem St.push {e : Ent} {o : Obj} {s' : Shared} (S : St C f (l ++ R) s) (ha : e.a = s.heap.objs.size) (hp : e.P f o) (hfree : o.isFreed = false)
    (hh : s'.heap = s.heap.push o) (hg : s'.gens = s.gens) (hos : s'.os = s.os) : St C f ((e :: l) ++ R) s' := by
  refine ⟨S.base, fun a o' hf => hh ▸ Heap.get?_push_of_some _ (S.live a o' hf), fun x hx => ?_, ?_, hg.trans S.gens, hos.trans S.os⟩
  · rcases List.mem_cons.mp hx with rfl | hx
    · refine ⟨?_, o, by rw [ha, hh]; exact Heap.get?_push_size _ hfree, hp⟩
      cases hq : f x.a with
      | none => rfl
      | some o' => have := S.flt hq; rw [ha] at this; exact absurd this (Nat.lt_irrefl _)
    · obtain ⟨a, o', b, c⟩ := S.cells x hx
      exact ⟨a, o', hh ▸ Heap.get?_push_of_some _ b, c⟩
  · show (e.a :: (l ++ R).map (·.a)).Nodup
    refine List.nodup_cons.mpr ⟨fun h => ?_, S.nodup⟩
    obtain ⟨x, hx, hxa⟩ := List.mem_map.mp h
    have := S.lt hx
    rw [hxa, ha] at this
    exact Nat.lt_irrefl _ this
theorem St.freeze {o : Obj} {s' : Shared} (S : St C f l s) (hfree : o.isFreed = false) (hh : s'.heap = s.heap.push o) (hg : s'.gens = s.gens) (hos : s'.os = s.os) :
    ∃ f', Sub f f' ∧ f' s.heap.objs.size = some o ∧ St C f' l s' := by
  have hn : f s.heap.objs.size = none := by
    cases hq : f s.heap.objs.size with
    | none => rfl
    | some o' => exact absurd (S.flt hq) (Nat.lt_irrefl _)
  have hsub : Sub f fun a => if a = s.heap.objs.size then some o else f a := fun a o' h => by
    show (if a = s.heap.objs.size then some o else f a) = some o'
    rw [if_neg (by rintro rfl; rw [hn] at h; cases h)]; exact h
  refine ⟨_, hsub, if_pos rfl, S.base.trans hsub, fun a o' h => ?_, fun x hx => ?_, S.nodup, hg.trans S.gens, hos.trans S.os⟩
  · rw [hh]
    by_cases e : a = s.heap.objs.size
    · subst e; rw [if_pos rfl] at h; cases h; exact Heap.get?_push_size _ hfree
    · rw [if_neg e] at h; exact Heap.get?_push_of_some _ (S.live a o' h)
  · obtain ⟨a, o', b, c⟩ := S.cells x hx
    refine ⟨?_, o', hh ▸ Heap.get?_push_of_some _ b, x.mono hsub c⟩
    show (if x.a = s.heap.objs.size then some o else f x.a) = none
    rw [if_neg (Nat.ne_of_lt (Heap.lt_size b))]; exact a
theorem St.grow {s' : Shared} (S : St C f l s) (hk : ∀ b o, s.heap.get? b = some o → s'.heap.get? b = some o) (hg : s'.gens = s.gens) (hos : s'.os = s.os) : St C f l s' :=
  ⟨S.base, fun a o h => hk a o (S.live a o h), fun x hx => let ⟨a, o, b, c⟩ := S.cells x hx; ⟨a, o, hk _ _ b, c⟩, S.nodup, hg.trans S.gens, hos.trans S.os⟩
end
inductive LookN : List Str → List (Option AV) → Str → AV → Prop
  | head {n ns x vs} : LookN (n :: ns) (some x :: vs) n x
  | tail {n m ns v x vs} : LookN ns vs n x → LookN (m :: ns) (v :: vs) n x
inductive SetN : List Str → List (Option AV) → Str → AV → List (Option AV) → Prop
  | head {n ns x v vs} : SetN (n :: ns) (v :: vs) n x (some x :: vs)
  | tail {n m ns v x vs vs'} : SetN ns vs n x vs' → SetN (m :: ns) (v :: vs) n x (v :: vs')
theorem LookN.mem {ns : List Str} {vs : List (Option AV)} {n : Str} {x : AV} (h : LookN ns vs n x) : n ∈ ns := by
  induction h with
  | head => simp
  | tail _ ih => simp [ih]
theorem SetN.mem {ns : List Str} {vs vs' : List (Option AV)} {n : Str} {x : AV} (h : SetN ns vs n x vs') : n ∈ ns := by
  induction h with
  | head => simp
  | tail _ ih => simp [ih]
theorem LookN.at {f : PH} {ns : List Str} {vs : List (Option AV)} {n : Str} {x : AV} {m : Str → Option Value} (h : LookN ns vs n x) (k : NsIs f ns vs m) : ∃ u, m n = some u ∧ Is f x u := by
  induction h with
  | head => exact k.1 _ rfl
  | tail _ ih => exact ih k.2
theorem NsIs.other {f : PH} {n : Str} {v : Value} : ∀ {ns : List Str} {vs : List (Option AV)} {m : Str → Option Value}, n ∉ ns → NsIs f ns vs m → NsIs f ns vs (fun y => if y = n then some v else m y)
  | [], [], _, _, _ => trivial
  | a :: _, _ :: _, _, h, k => by
    simp only [List.mem_cons, not_or] at h
    refine ⟨fun x e => ?_, NsIs.other h.2 k.2⟩
    obtain ⟨u, q, r⟩ := k.1 x e
    exact ⟨u, (if_neg fun e => h.1 e.symm).trans q, r⟩
  | [], _ :: _, _, _, k => k.elim
  | _ :: _, [], _, _, k => k.elim
theorem SetN.at {f : PH} {ns : List Str} {vs vs' : List (Option AV)} {n : Str} {x : AV} {v : Value} {m : Str → Option Value} (h : SetN ns vs n x vs') (hv : Is f x v) (hn : ns.Nodup) (k : NsIs f ns vs m) :
    NsIs f ns vs' (fun y => if y = n then some v else m y) := by
  induction h with
  | head =>
    rw [List.nodup_cons] at hn
    exact ⟨fun y e => ⟨v, if_pos rfl, by cases e; exact hv⟩, NsIs.other hn.1 k.2⟩
  | tail h' ih =>
    rw [List.nodup_cons] at hn
    refine ⟨fun y e => ?_, ih hv hn.2 k.2⟩
    obtain ⟨u, q, r⟩ := k.1 y e
    exact ⟨u, (if_neg (by rintro rfl; exact hn.1 h'.mem)).trans q, r⟩
structure LocTab (env : Env) (names : List Str) : Prop where
  kind : env.scope.kind = .function
  loc : ∀ x ∈ names, env.kindOf x = some .local ∧ (x == ("__debug__" : Str)) = false
section
variable {C : Cx} {A : Around} {l l' : List Ent} {env : Env}
theorem ev_loc {names : List Str} {vals : List (Option AV)} {x : Str} {pos : Pos} {v : AV} {Φ : AV → List Ent → Prop} (hT : LocTab env names)
    (hm : ns env.locals names vals ∈ l) (hv : LookN names vals x v) (h : Φ v l) : W C A l (eval (.Name x pos) env) Φ := fun R f s S => by
  obtain ⟨o, ho, m, es, ep, h1, h2, h3, h4, h5⟩ := S.get (List.mem_append_left R hm)
  obtain ⟨u, hu, hi⟩ := hv.at h4
  exact wpAny_Name (wpAny_loadName_local hT.kind (hT.loc x hv.mem).1 ⟨o, es, ep, ho, h1, h2, h3⟩ hu ⟨f, v, l, .refl f, S, hi, h⟩) (hT.loc x hv.mem).2
theorem st_loc {names : List Str} {vals vals' : List (Option AV)} {x : Str} {v : AV} {Φ : Unit → List Ent → Prop} (hT : LocTab env names)
    (hU : Upd1 (ns env.locals names vals) (ns env.locals names vals') l l') (hv : SetN names vals x v vals') (h : Φ () l') : W1 C A isEq l v (storeName env x) Φ := fun R f s v' S hi => by
  obtain ⟨o, ho, m, es, ep, h1, h2, h3, h4, h5⟩ := S.get (List.mem_append_left R hU.mem)
  refine wpAny_storeName_local (hT.loc x hv.mem).1 ⟨o, es, ep, ho, h1, h2, h3⟩ (fun h' hn hs => ?_) (by rw [hT.kind]; rfl)
  refine ⟨f, (), l', .refl f, ?_, rfl, h⟩
  obtain ⟨o', es', ep', ho', k1, k2, k3⟩ := hn
  exact S.upd hU rfl hs ⟨o', ho', _, es', ep', k1, k2, k3, hv.at hi h5 h4, h5⟩ rfl rfl rfl
end
end Mine
end
section
open PySem PySem.W PyProof.Rows
namespace Mine
section
variable {α β : Type} {C : Cx} {A : Around} {rel : PH → β → α → Prop} {l l' : List Ent} {env : Env}
theorem Wr.run {R : List Ent} {f : PH} {s : Shared} {t : Sem α} {Φ : β → List Ent → Prop} {Q : α → Shared → Prop} (h : Wr C A rel l t Φ) (S : St C f (l ++ R) s)
    (k : ∀ f' x l' v s', Sub f f' → St C f' (l' ++ R) s' → rel f' x v → Φ x l' → Q v s') : wpAny C.M A t Q NoE s :=
  wpAny_mono (h R f s S) (fun v s' ⟨f', x, l', a, b, c, d⟩ => k f' x l' v s' a b c d) fun _ _ e => e
theorem W1.run {R : List Ent} {f : PH} {s : Shared} {x : AV} {v : Value} {t : Value → Sem α} {Φ : β → List Ent → Prop} {Q : α → Shared → Prop} (h : W1 C A rel l x t Φ) (S : St C f (l ++ R) s) (hv : Is f x v)
    (k : ∀ f' x l' v s', Sub f f' → St C f' (l' ++ R) s' → rel f' x v → Φ x l' → Q v s') : wpAny C.M A (t v) Q NoE s :=
  wpAny_mono (h R f s v S hv) (fun v s' ⟨f', x, l', a, b, c, d⟩ => k f' x l' v s' a b c d) fun _ _ e => e
theorem W2.run {R : List Ent} {f : PH} {s : Shared} {x y : AV} {v u : Value} {t : Value → Value → Sem α} {Φ : β → List Ent → Prop} {Q : α → Shared → Prop} (h : W2 C A rel l x y t Φ) (S : St C f (l ++ R) s) (hv : Is f x v) (hu : Is f y u)
    (k : ∀ f' x l' v s', Sub f f' → St C f' (l' ++ R) s' → rel f' x v → Φ x l' → Q v s') : wpAny C.M A (t v u) Q NoE s :=
  wpAny_mono (h R f s v u S hv hu) (fun v s' ⟨f', x, l', a, b, c, d⟩ => k f' x l' v s' a b c d) fun _ _ e => e
theorem post {R : List Ent} {f f' : PH} {s : Shared} {x : β} {v : α} {Φ : β → List Ent → Prop} (a : Sub f f') (S : St C f' (l ++ R) s) (r : rel f' x v) (k : Φ x l) : Post C rel f R Φ v s := ⟨f', x, l, a, S, r, k⟩
noncomputable abbrev Bin2 (C : Cx) (A : Around) (x : AV) (t : Value → Value → Sem Value) (Φ : AV → List Ent → Prop) : AV → List Ent → Prop := fun y l => W2 C A Is l x y t Φ
noncomputable abbrev Bin1 (C : Cx) (A : Around) (env : Env) (b : Expr) (t : Value → Value → Sem Value) (Φ : AV → List Ent → Prop) : AV → List Ent → Prop := fun x l => W C A l (eval b env) (Bin2 C A x t Φ)
noncomputable abbrev Un1 (C : Cx) (A : Around) (t : Value → Sem Value) (Φ : AV → List Ent → Prop) : AV → List Ent → Prop := fun x l => W1 C A Is l x t Φ
noncomputable abbrev RestP (C : Cx) (A : Around) (env : Env) (rest : List Stmt) (Φ : AF → List Ent → Prop) : Unit → List Ent → Prop := fun _ l => WF C A l (execs rest env) Φ
noncomputable abbrev StoreP (C : Cx) (A : Around) (env : Env) (x : Str) (rest : List Stmt) (Φ : AF → List Ent → Prop) : AV → List Ent → Prop := fun v l => W1 C A isEq l v (storeName env x) (RestP C A env rest Φ)
noncomputable abbrev NextP (C : Cx) (A : Around) (env : Env) (rest : List Stmt) (Φ : AF → List Ent → Prop) : AF → List Ent → Prop := fun fl l => (fl = .next → WF C A l (execs rest env) Φ) ∧ (fl ≠ .next → Φ fl l)
noncomputable abbrev IfP (C : Cx) (A : Around) (env : Env) (b o rest : List Stmt) (Φ : AF → List Ent → Prop) : Bool → List Ent → Prop := fun c l => (c = true → WF C A l (execs b env) (NextP C A env rest Φ)) ∧ (c = false → WF C A l (execs o env) (NextP C A env rest Φ))
noncomputable abbrev AndP (C : Cx) (A : Around) (env : Env) (rest : List Expr) (pos : Pos) (whole : Sem Value) (Φ : Bool → List Ent → Prop) : Bool → List Ent → Prop := fun c l => (c = true → WB C A l (isTrue (.BoolOp .And rest pos) env whole) Φ) ∧ (c = false → Φ false l)
noncomputable abbrev OrP (C : Cx) (A : Around) (env : Env) (rest : List Expr) (pos : Pos) (whole : Sem Value) (Φ : Bool → List Ent → Prop) : Bool → List Ent → Prop := fun c l => (c = true → Φ true l) ∧ (c = false → WB C A l (isTrue (.BoolOp .Or rest pos) env whole) Φ)
noncomputable abbrev EIfP (C : Cx) (A : Around) (env : Env) (b o : Expr) (Φ : AV → List Ent → Prop) : Bool → List Ent → Prop := fun c l => (c = true → W C A l (eval b env) Φ) ∧ (c = false → W C A l (eval o env) Φ)
noncomputable abbrev RetP (Φ : AF → List Ent → Prop) : AV → List Ent → Prop := fun v l => Φ (.ret v) l
theorem ev_int {i : Int} {k : Nat} {pos : Pos} {Φ : AV → List Ent → Prop} (h : Φ (.int i) l) : W C A l (eval (.Constant (.int i) k pos) env) Φ :=
  fun _ f _ S => wpAny_Constant_int (post (.refl f) (S.toks _) (.int _ _) h)
theorem ev_bool {c : Bool} {k : Nat} {pos : Pos} {Φ : AV → List Ent → Prop} (h : Φ (.bool c) l) : W C A l (eval (.Constant (.bool c) k pos) env) Φ :=
  fun _ f _ S => Constant_bool (post (.refl f) S (.bool _) h)
theorem ev_none {k : Nat} {pos : Pos} {Φ : AV → List Ent → Prop} (h : Φ .none l) : W C A l (eval (.Constant .none k pos) env) Φ :=
  fun _ f _ S => Constant_none (post (.refl f) S .none h)
theorem ev_str {x : Str} {k : Nat} {pos : Pos} {Φ : AV → List Ent → Prop} (h : Φ (.str x) l) : W C A l (eval (.Constant (.str x) k pos) env) Φ :=
  fun _ f _ S => (wpAny_mkText (post (.refl f) (S.toks _) (.str _ _) h) : wpAny C.M A (mkText x) _ _ _)
theorem ev_bin {a b : Expr} {op : Operator} {pos : Pos} {Φ : AV → List Ent → Prop}
    (h : W C A l (eval a env) (Bin1 C A env b (binaryOp op) Φ)) : W C A l (eval (.BinOp a op b pos) env) Φ :=
  fun _ _ _ S => wpAny_BinOp (h.run S fun _ _ _ _ _ a₁ S₁ r₁ k₁ => k₁.run S₁ fun _ _ _ _ _ a₂ S₂ r₂ k₂ => wp_up (a₁.trans a₂) (k₂ _ _ _ _ _ S₂ (r₁.mono a₂) r₂))
theorem ev_un {a : Expr} {op : UnaryOp} {pos : Pos} {Φ : AV → List Ent → Prop}
    (h : W C A l (eval a env) (Un1 C A (unaryOp op) Φ)) : W C A l (eval (.UnaryOp op a pos) env) Φ :=
  fun _ _ _ S => UnaryOp_ (h.run S fun _ _ _ _ _ a₁ S₁ r₁ k₁ => wp_up a₁ (k₁ _ _ _ _ S₁ r₁))
theorem ev_cmp {a b : Expr} {op : CmpOp} {pos : Pos} {Φ : AV → List Ent → Prop}
    (h : W C A l (eval a env) (Bin1 C A env b (compareOp op) Φ)) (hm : behindInMarks op b = false := by with_unfolding_all rfl) : W C A l (eval (.Compare a [op] [b] pos) env) Φ :=
  fun _ _ _ S => wpAny_Compare1 (h.run S fun _ _ _ _ _ a₁ S₁ r₁ k₁ => k₁.run S₁ fun _ _ _ _ _ a₂ S₂ r₂ k₂ => wp_up (a₁.trans a₂) (k₂ _ _ _ _ _ S₂ (r₁.mono a₂) r₂)) hm
inductive Truth : AV → Bool → Prop
  | bool (b : Bool) : Truth (.bool b) b
  | int (i : Int) : Truth (.int i) (i != 0)
  | none : Truth .none false
theorem truth_of {x : AV} {b : Bool} {Φ : Bool → List Ent → Prop} (t : Truth x b) (h : Φ b l) : W1 C A isEq l x truthy Φ := fun R f s v S r => by
  cases t with
  | bool => cases r; exact wpAny_truthy_bool (post (.refl f) S rfl h)
  | int => cases r; exact P.truthy_int (post (.refl f) S rfl h)
  | none => cases r; exact truthy_none (post (.refl f) S rfl h)
noncomputable abbrev TruthP (Φ : Bool → List Ent → Prop) : AV → List Ent → Prop := fun z l => ∃ c, Truth z c ∧ Φ c l
theorem tr_cmp {a b : Expr} {op : CmpOp} {pos : Pos} {whole : Sem Value} {Φ : Bool → List Ent → Prop}
    (h : W C A l (eval a env) (Bin1 C A env b (compareOp op) (TruthP Φ))) (hm : behindInMarks op b = false := by with_unfolding_all rfl) :
    WB C A l (isTrue (.Compare a [op] [b] pos) env whole) Φ :=
  fun _ _ _ S => wpAny_isTrue_Compare1 (h.run S fun _ _ _ _ _ a₁ S₁ r₁ k₁ => k₁.run S₁ fun _ _ _ _ _ a₂ S₂ r₂ k₂ => k₂.run S₂ (r₁.mono a₂) r₂ fun _ _ _ _ _ a₃ S₃ r₃ k₃ =>
    let ⟨_, t, h⟩ := k₃; wp_up ((a₁.trans a₂).trans a₃) (truth_of t h _ _ _ _ S₃ r₃)) hm
theorem tr_not {a : Expr} {pos : Pos} {whole : Sem Value} {Φ : Bool → List Ent → Prop} (h : WB C A l (isTrue a env (eval a env)) fun c l₁ => Φ (!c) l₁) : WB C A l (isTrue (.UnaryOp .Not a pos) env whole) Φ :=
  fun _ _ _ S => isTrue_not (h.run S fun _ _ _ _ _ a₁ S₁ r₁ k₁ => post a₁ S₁ (congrArg _ r₁) k₁)
theorem tr_and_nil {pos : Pos} {whole : Sem Value} {Φ : Bool → List Ent → Prop} (h : Φ true l) : WB C A l (isTrue (.BoolOp .And [] pos) env whole) Φ :=
  fun _ f _ S => isTrue_and_nil (post (.refl f) S rfl h)
theorem tr_or_nil {pos : Pos} {whole : Sem Value} {Φ : Bool → List Ent → Prop} (h : Φ false l) : WB C A l (isTrue (.BoolOp .Or [] pos) env whole) Φ :=
  fun _ f _ S => isTrue_or_nil (post (.refl f) S rfl h)
theorem tr_and {x : Expr} {rest : List Expr} {pos : Pos} {whole : Sem Value} {Φ : Bool → List Ent → Prop}
    (h : WB C A l (isTrue x env (eval x env)) (AndP C A env rest pos whole Φ)) :
    WB C A l (isTrue (.BoolOp .And (x :: rest) pos) env whole) Φ :=
  fun _ _ _ S => isTrue_and (h.run S fun _ c _ v _ a₁ S₁ r₁ k₁ => by
    cases r₁
    cases c with
    | true => exact wp_up a₁ (k₁.1 rfl _ _ _ S₁)
    | false => exact post a₁ S₁ rfl (k₁.2 rfl))
theorem tr_or {x : Expr} {rest : List Expr} {pos : Pos} {whole : Sem Value} {Φ : Bool → List Ent → Prop}
    (h : WB C A l (isTrue x env (eval x env)) (OrP C A env rest pos whole Φ)) :
    WB C A l (isTrue (.BoolOp .Or (x :: rest) pos) env whole) Φ :=
  fun _ _ _ S => isTrue_or (h.run S fun _ c _ v _ a₁ S₁ r₁ k₁ => by
    cases r₁
    cases c with
    | true => exact post a₁ S₁ rfl (k₁.1 rfl)
    | false => exact wp_up a₁ (k₁.2 rfl _ _ _ S₁))
theorem tr_val {e : Expr} {whole : Sem Value} {Φ : Bool → List Ent → Prop} (h : W C A l whole (TruthP Φ))
    (he : isTrue e env whole = (do let v ← whole; standAt e.pos; holding [v] (truthy v)) := by rfl) : WB C A l (isTrue e env whole) Φ :=
  fun _ _ _ S => isTrue_plain (h.run S fun _ _ _ _ _ a₁ S₁ r₁ k₁ => let ⟨_, t, h⟩ := k₁; wp_up a₁ (truth_of t h _ _ _ _ S₁ r₁)) he
theorem ev_if {t b o : Expr} {pos : Pos} {Φ : AV → List Ent → Prop}
    (h : WB C A l (isTrue t env (eval t env)) (EIfP C A env b o Φ)) : W C A l (eval (.IfExp t b o pos) env) Φ :=
  fun _ _ _ S => IfExp_ (h.run S fun _ c _ v _ a₁ S₁ r₁ k₁ => by
    cases r₁
    cases c with
    | true => exact wp_up a₁ (k₁.1 rfl _ _ _ S₁)
    | false => exact wp_up a₁ (k₁.2 rfl _ _ _ S₁))
theorem o2_add {i j : Int} {Φ : AV → List Ent → Prop} (h : Φ (.int (i + j)) l) : W2 C A Is l (.int i) (.int j) (binaryOp .Add) Φ := fun _ f _ _ _ S r r' => by
  cases r; cases r'; exact P.add_int (post (.refl f) (S.toks _) (.int _ _) h)
theorem o2_sub {i j : Int} {Φ : AV → List Ent → Prop} (h : Φ (.int (i - j)) l) : W2 C A Is l (.int i) (.int j) (binaryOp .Sub) Φ := fun _ f _ _ _ S r r' => by
  cases r; cases r'; exact P.sub_int (post (.refl f) (S.toks _) (.int _ _) h)
theorem o2_mul {i j : Int} {Φ : AV → List Ent → Prop} (hm : IntMulOk i j) (h : Φ (.int (i * j)) l) : W2 C A Is l (.int i) (.int j) (binaryOp .Mult) Φ := fun _ f _ _ _ S r r' => by
  cases r; cases r'; exact P.mul_int (post (.refl f) (S.toks _) (.int _ _) h) hm
theorem o2_mod {i j : Int} {Φ : AV → List Ent → Prop} (hj : 0 < j) (h : Φ (.int (i % j)) l) : W2 C A Is l (.int i) (.int j) (binaryOp .Mod) Φ := fun _ f _ _ _ S r r' => by
  cases r; cases r'; exact mod_int' (by omega) (post (.refl f) (S.toks _) (.int _ _) (by rw [Int.fmod_eq_emod_of_nonneg _ (by omega)]; exact h))
theorem o2_div {i j : Int} {Φ : AV → List Ent → Prop} (hi : i.natAbs < 2 ^ 60) (hj : 0 < j) (hj' : j < 2 ^ 30) (h : Φ (.int (i / j)) l) : W2 C A Is l (.int i) (.int j) (binaryOp .FloorDiv) Φ := fun _ f _ _ _ S r r' => by
  cases r; cases r'; exact floordiv_int (by omega) (post (.refl f) (S.toks _) (.int _ _) (by rw [Int.fdiv_eq_ediv_of_nonneg _ (by omega)]; exact h)) (Or.inl (PyProof.noPylong_small (by omega)))
theorem o1_neg {i : Int} {Φ : AV → List Ent → Prop} (h : Φ (.int (-i)) l) : W1 C A Is l (.int i) (unaryOp .USub) Φ := fun _ f _ _ S r => by
  cases r; exact P.neg_int (post (.refl f) (S.toks _) (.int _ _) h)
theorem i2_add {i j : Int} {Φ : AV → List Ent → Prop} (h : Φ (.int (i + j)) l) : W2 C A Is l (.int i) (.int j) (inplaceOp .Add) Φ := fun _ f _ _ _ S r r' => by
  cases r; cases r'; exact P.iadd_int (post (.refl f) (S.toks _) (.int _ _) h)
theorem c2_eq {i j : Int} {Φ : AV → List Ent → Prop} (h : Φ (.bool (decide (i = j))) l) : W2 C A Is l (.int i) (.int j) (compareOp .Eq) Φ := fun _ f _ _ _ S r r' => by
  cases r; cases r'; exact P.eq_int (post (.refl f) S (.bool _) (by rw [show (i == j) = decide (i = j) from rfl]; exact h))
theorem c2_ne {i j : Int} {Φ : AV → List Ent → Prop} (h : Φ (.bool (decide (i ≠ j))) l) : W2 C A Is l (.int i) (.int j) (compareOp .NotEq) Φ := fun _ f _ _ _ S r r' => by
  cases r; cases r'; exact P.ne_int (post (.refl f) S (.bool _) (by rw [show (i != j) = decide (i ≠ j) by by_cases q : i = j <;> simp [q]]; exact h))
theorem c2_lt {i j : Int} {Φ : AV → List Ent → Prop} (h : Φ (.bool (decide (i < j))) l) : W2 C A Is l (.int i) (.int j) (compareOp .Lt) Φ := fun _ f _ _ _ S r r' => by
  cases r; cases r'; exact P.lt_int (post (.refl f) S (.bool _) h)
theorem c2_le {i j : Int} {Φ : AV → List Ent → Prop} (h : Φ (.bool (decide (i ≤ j))) l) : W2 C A Is l (.int i) (.int j) (compareOp .LtE) Φ := fun _ f _ _ _ S r r' => by
  cases r; cases r'; exact P.le_int (post (.refl f) S (.bool _) h)
theorem c2_gt {i j : Int} {Φ : AV → List Ent → Prop} (h : Φ (.bool (decide (i > j))) l) : W2 C A Is l (.int i) (.int j) (compareOp .Gt) Φ := fun _ f _ _ _ S r r' => by
  cases r; cases r'; exact P.gt_int (post (.refl f) S (.bool _) h)
theorem c2_ge {i j : Int} {Φ : AV → List Ent → Prop} (h : Φ (.bool (decide (i ≥ j))) l) : W2 C A Is l (.int i) (.int j) (compareOp .GtE) Φ := fun _ f _ _ _ S r r' => by
  cases r; cases r'; exact P.ge_int (post (.refl f) S (.bool _) h)
theorem ex_nil {Φ : AF → List Ent → Prop} (h : Φ .next l) : WF C A l (execs [] env) Φ := fun _ f _ S => wpAny_execs_nil (post (.refl f) S .next h)
theorem ex_cons {st : Stmt} {rest : List Stmt} {Φ : AF → List Ent → Prop}
    (h : WF C A l (exec st env) (NextP C A env rest Φ)) : WF C A l (execs (st :: rest) env) Φ :=
  fun _ _ _ S => wpAny_execs_cons (h.run S fun f' fl l₁ v s₁ a₁ S₁ r₁ k₁ => by
    cases r₁ with
    | next => exact wp_up a₁ (k₁.1 rfl _ _ _ S₁)
    | brk => exact post a₁ S₁ .brk (k₁.2 (by simp))
    | cont => exact post a₁ S₁ .cont (k₁.2 (by simp))
    | ret h => exact post a₁ S₁ (.ret h) (k₁.2 (by simp)))
theorem ex_seq {st : Stmt} {rest : List Stmt} {Φ : AF → List Ent → Prop}
    (h : WF C A l (exec st env) fun fl l₁ => fl = .next ∧ WF C A l₁ (execs rest env) Φ) : WF C A l (execs (st :: rest) env) Φ :=
  ex_cons (h.mono fun _ _ ⟨e, k⟩ => ⟨fun _ => k, fun q => (q e).elim⟩)
theorem ex_assign {x : Str} {p : Pos} {value : Expr} {pos : Pos} {rest : List Stmt} {Φ : AF → List Ent → Prop}
    (h : W C A l (eval value env) (StoreP C A env x rest Φ))
    (hs : swapsWith value (some (.Name x p)) pos.line env = pure false := by rfl) : WF C A l (execs (.Assign [.Name x p] value pos :: rest) env) Φ :=
  ex_seq fun _ _ _ S => wpAny_Assign_Name (h.run S fun _ _ _ _ _ a₁ S₁ r₁ k₁ => k₁.run S₁ r₁ fun _ _ _ _ _ a₂ S₂ _ k₂ => post (a₁.trans a₂) S₂ .next ⟨rfl, k₂⟩) hs
theorem ex_if {t : Expr} {b o : List Stmt} {pos : Pos} {rest : List Stmt} {Φ : AF → List Ent → Prop}
    (h : WB C A l (isTrue t env (eval t env)) (IfP C A env b o rest Φ)) :
    WF C A l (execs (.If t b o pos :: rest) env) Φ :=
  ex_cons fun _ _ _ S => wpAny_If (h.run S fun _ c _ v _ a₁ S₁ r₁ k₁ => by
    cases r₁
    cases c with
    | true => exact wp_up a₁ (k₁.1 rfl _ _ _ S₁)
    | false => exact wp_up a₁ (k₁.2 rfl _ _ _ S₁))
theorem ex_ret {e : Expr} {pos : Pos} {rest : List Stmt} {Φ : AF → List Ent → Prop} (h : W C A l (eval e env) (RetP Φ)) : WF C A l (execs (.Return (some e) pos :: rest) env) Φ :=
  ex_cons fun _ _ _ S => wpAny_Return_some (h.run S fun _ _ _ _ _ a₁ S₁ r₁ k₁ => post a₁ S₁ (.ret r₁) ⟨by simp, fun _ => k₁⟩)
theorem ex_ret0 {pos : Pos} {rest : List Stmt} {Φ : AF → List Ent → Prop} (h : Φ (.ret .none) l) : WF C A l (execs (.Return none pos :: rest) env) Φ :=
  ex_cons fun _ f _ S => wpAny_Return_none (post (.refl f) S (.ret .none) ⟨by simp, fun _ => h⟩)
theorem ex_expr {e : Expr} {pos : Pos} {rest : List Stmt} {Φ : AF → List Ent → Prop} (h : W C A l (eval e env) fun v l₁ => v = .none ∧ WF C A l₁ (execs rest env) Φ)
    (hi : interactive env = false := by rfl) (hs : swapsWith e none pos.line env = pure false := by rfl) : WF C A l (execs (.Expr e pos :: rest) env) Φ :=
  ex_seq fun _ _ _ S => wpAny_Expr (h.run S fun _ _ _ _ _ a₁ S₁ r₁ k₁ => by
    obtain ⟨rfl, k⟩ := k₁
    cases r₁
    exact post a₁ S₁ .next ⟨rfl, k⟩) hi hs
end
end Mine
end
section
open PySem PySem.W PyProof.Rows
namespace Mine
structure Room (A : Around) (n : Nat) : Prop where
  handled : A.handled = none
  depth : A.depth + n ≤ 600
  units : A.units + 10 * n ≤ 4000
theorem Room.caller : Room callerA 100 := ⟨rfl, by decide, by decide⟩
theorem Room.deeper {A : Around} {n : Nat} (r : Room A (n + 1)) (env : Env) : Room (A.deeper env) n :=
  ⟨r.handled, by have := r.depth; show A.depth + 1 + n ≤ 600; omega, by have := r.units; show A.units + 3 + 10 * n ≤ 4000; omega⟩
theorem Room.lim {A : Around} {n : Nat} (r : Room A n) : A.depth < recursionLimit := by have := r.depth; show _ < 1000; omega
theorem Room.line {A : Around} {n : Nat} (r : Room A n) : A.units < cLine := by have := r.units; show _ < 9900; omega
theorem Room.line1 {A : Around} {n : Nat} (r : Room A n) : A.units + 1 < cLine := by have := r.units; show _ < 9900; omega
structure FnOf (C : Cx) (a : Addr) (fd : FuncData) (body : List Stmt) : Prop where
  ho : ∃ o, C.h0.get? a = some o ∧ o.data = .func fd
  hcd : C.h0.CodeRec fd.code fd.qualname
  hbody : fd.body = .stmts body
  hclo : fd.closure = []
  hco : fd.scope.isCoroutine = false
  hgen : fd.scope.isGenerator = false
  hk : fd.scope.kind = .function
  hg : fd.globals = mainGlobals
  hb : fd.builtins = builtinsNs
structure EnvFor (fd : FuncData) (env : Env) : Prop where
  scope : env.scope = fd.scope
  globals : env.globals = mainGlobals
  builtins : env.builtins = builtinsNs
inductive Ret : AF → AV → Prop
  | ret {x : AV} : Ret (.ret x) x
  | next : Ret .next .none
inductive Gives : List Ent → List Ent → Prop
  | perm {l l'} : l.Perm l' → Gives l l'
  | sub {l l'} : l'.Sublist l → Gives l l'
  | trans {l l' l''} : Gives l l' → Gives l' l'' → Gives l l''
theorem Gives.st {C : Cx} {f : PH} {l l' R : List Ent} {s : Shared} (g : Gives l l') (S : St C f (l ++ R) s) : St C f (l' ++ R) s := by
  induction g with
  | perm p => exact S.perm (p.append_right R)
  | sub p => exact S.sublist (p.append_right R)
  | trans _ _ i j => exact j (i S)
theorem Gives.rfl {l : List Ent} : Gives l l := .perm (.refl l)
theorem Gives.tail {e : Ent} {l : List Ent} : Gives (e :: l) l := .sub (List.sublist_cons_self e l)
theorem Gives.tails {e : Ent} {l l' : List Ent} (g : Gives l l') : Gives (e :: l) l' := .trans .tail g
section
variable {C : Cx} {A : Around} {l : List Ent} {env : Env}
noncomputable def flowVal (fl : Flow) : Value := match fl with | .ret v => v | _ => .none
theorem PySem_mono {fl : Flow} {f f' : PH} {af : AF} {x : AV} (h : IsF f af fl) (r : Ret af x) (s : Sub f f') : Is f' x (flowVal fl) := by
  cases r with
  | ret => cases h with | ret h => exact h.mono s
  | next => cases h; exact .none
theorem ns_of {f : PH} {params : List Str} {xs : List AV} {vs : List Value} {m : Str → Option Value} (h : ∀ p v, (p, v) ∈ params.zip vs → m p = some v) (k : IsAll f xs vs) (e : params.length = xs.length) : NsIs f params (xs.map some) m := by
  induction params generalizing xs vs with
  | nil => cases xs with
    | nil => trivial
    | cons x xs => cases e
  | cons p ps ih =>
    cases xs with
    | nil => cases e
    | cons x xs =>
      obtain ⟨v, r, rfl, a, t⟩ := k.consE
      exact ⟨fun y q => by cases q; exact ⟨v, h p v (.head _), a⟩, ih (fun p' v' hm => h p' v' (.tail _ hm)) t (Nat.succ.inj e)⟩
theorem NsIs.append {f : PH} {m : Str → Option Value} {a b : List Str} {x y : List (Option AV)} (h : NsIs f a x m) (k : NsIs f b y m) : NsIs f (a ++ b) (x ++ y) m := by
  induction a generalizing x with
  | nil => cases x with
    | nil => exact k
    | cons _ _ => exact h.elim
  | cons _ _ ih => cases x with
    | nil => exact h.elim
    | cons _ _ => exact ⟨h.1, ih h.2⟩
theorem NsIs.nones {f : PH} {m : Str → Option Value} : ∀ (a : List Str), NsIs f a (a.map fun _ => none) m
  | [] => trivial
  | _ :: a => ⟨fun _ e => (by cases e), NsIs.nones a⟩
theorem lookup_zip {params : List Str} : ∀ {vs : List Value} {p : Str} {v : Value}, params.Nodup → (p, v) ∈ params.zip vs → (params.zip vs).reverse.lookup p = some v := by
  intro vs p v hn hm
  have key : ∀ (l : List (Str × Value)), (l.map (·.1)).Nodup → (p, v) ∈ l → l.lookup p = some v := by
    intro l
    induction l with
    | nil => intro _ h; cases h
    | cons q r ih =>
      intro hn h
      rw [List.map_cons, List.nodup_cons] at hn
      rw [List.lookup_cons]
      rcases List.mem_cons.mp h with e | h
      · subst e; simp
      · have hne : (p == q.1) = false := by
          cases hb : p == q.1 with
          | false => rfl
          | true => exact absurd (List.mem_map.mpr ⟨(p, v), h, beq_iff_eq.mp hb⟩) hn.1
        rw [hne]; exact ih hn.2 h
  refine key _ ?_ (List.mem_reverse.mpr hm)
  rw [List.map_reverse]
  refine List.pairwise_reverse.mpr (List.Pairwise.imp (fun h => Ne.symm h) (?_ : List.Nodup _))
  have : ∀ (a : List Str) (b : List Value), ((a.zip b).map (·.1)).Sublist a := by
    intro a
    induction a with
    | nil => intro b; simp
    | cons x a ih => intro b; cases b with
      | nil => simp
      | cons y b => simp only [List.zip_cons_cons, List.map_cons]; exact (ih b).cons₂ _
  exact hn.sublist (this _ _)
noncomputable abbrev RetG (Φ : AV → List Ent → Prop) : AF → List Ent → Prop := fun fl l' => ∃ x l'', Ret fl x ∧ Gives l' l'' ∧ Φ x l''
theorem call_def {a : Addr} {fd : FuncData} {body : List Stmt} {params rest : List Str} {xs : List AV} {n : Nat} {Φ : AV → List Ent → Prop} (F : FnOf C a fd body) (hr : Room A (n + 1))
    (hbind : ∀ (s : Shared) (vs : List Value), (∀ b o, C.h0.get? b = some o → s.heap.get? b = some o) → vs.length = xs.length → BindsTo s fd ⟨vs, []⟩ (params.zip vs))
    (hcell : ∀ x ∈ fd.scope.names, x.2 ≠ .cell) (hloc : ∀ p ∈ params, fd.scope.names.lookup p = some .local) (hlen : params.length = xs.length) (hnd : (params ++ rest).Nodup) {names : List Str} {vals : List (Option AV)} (hns : params ++ rest = names) (hvals : (xs.map some ++ rest.map fun _ => none) = vals)
    (h : ∀ env, EnvFor fd env → env.cells = [] → Room (A.deeper env) n → WF C (A.deeper env) (ns env.locals names vals :: l) (execs body env) (RetG Φ)) :
    Wn C A Is l xs (fun vs => call (.ref a) vs) Φ := fun R f s vs S hvs => by
  subst hns hvals
  obtain ⟨o, ho, hdata⟩ := F.ho
  have hk := S.base.trans S.live
  have hl : vs.length = xs.length := hvs.length
  refine wpAny_call (codeAny_call_def hr.lim (hk _ _ ho) hdata (C.nolimit.keeps hk) (F.hcd.keeps hk) F.hbody (hbind s vs hk hl) hcell (fun x hx => hloc _ ?_) (fun h₀ hns hkeep => ?_) F.hco F.hgen F.hk)
  · exact (List.of_mem_zip hx).1
  · have e1 : EnvFor fd (callEnv fd s.heap.objs.size a) := ⟨Eq.refl _, F.hg, F.hb⟩
    have e2 : (callEnv fd s.heap.objs.size a).cells = [] := F.hclo
    have W := h _ e1 e2 (hr.deeper _)
    have SL : St C f (ns s.heap.objs.size (params ++ rest) (xs.map some ++ rest.map fun _ => none) :: (l ++ R)) { s with heap := h₀, toks := s.toks + (params.zip vs).length } := by
      have S1 : St C f (l ++ R) { s with heap := h₀, toks := s.toks + (params.zip vs).length } := S.grow hkeep (Eq.refl _) (Eq.refl _)
      obtain ⟨o', es, ep, ho', hd', hsk, hm⟩ := hns
      refine ⟨S1.base, S1.live, fun e he => ?_, ?_, S1.gens, S1.os⟩
      · rcases List.mem_cons.mp he with rfl | he
        · refine ⟨?_, o', ho', _, es, ep, hd', hsk, hm, ?_, hnd⟩
          · show f s.heap.objs.size = none
            cases hq : f s.heap.objs.size with
            | none => exact Eq.refl _
            | some _ => exact absurd (S.flt hq) (Nat.lt_irrefl _)
          · exact NsIs.append (ns_of (fun p v hpv => lookup_zip (List.nodup_append.mp hnd).1 hpv) hvs hlen) (NsIs.nones rest)
        · exact S1.cells e he
      · show (s.heap.objs.size :: (l ++ R).map (·.a)).Nodup
        refine List.nodup_cons.mpr ⟨fun hm => ?_, S.nodup⟩
        obtain ⟨e, he, hq⟩ := List.mem_map.mp hm
        have := S.lt he; rw [hq] at this; exact Nat.lt_irrefl _ this
    refine wpAny_mono (W R f _ SL) (fun fl s' hp => ?_) fun _ _ e => e.elim
    obtain ⟨f', af, l', a1, S2, r2, x, l'', rt, gv, k⟩ := hp
    exact ⟨f', x, l'', a1, gv.st S2, PySem_mono r2 rt (.refl f'), k⟩
end
end Mine
end
section
open PySem PySem.W PySem.Calls PyProof.Rows
namespace Mine
noncomputable abbrev Kf (C : Cx) : Frag := kHeap C.w.params
noncomputable def GV (C : Cx) (x : Str) (y : AV) : Prop :=
  (∃ v, C.mg x = some v ∧ ∀ f, Sub C.h0.get? f → Is f y v) ∨ (C.mg x = none ∧ x ≠ "__name__" ∧ ∃ v, bootBuiltins x = some v ∧ ∀ f, Is f y v)
structure GlobTab (env : Env) (gs : List Str) : Prop where
  kind : env.scope.kind = .function
  globals : env.globals = mainGlobals
  builtins : env.builtins = builtinsNs
  glob : ∀ x ∈ gs, env.kindOf x = some .globalImplicit ∧ (x == ("__debug__" : Str)) = false
section
variable {C : Cx} {A : Around} {l : List Ent} {env : Env}
theorem ld_glob {x : Str} {y : AV} {Φ : AV → List Ent → Prop} (hk : env.scope.kind = .function) (hg : env.globals = mainGlobals) (hb : env.builtins = builtinsNs)
    (hx : env.kindOf x = some .globalImplicit) (hd : (x == ("__debug__" : Str)) = false) (hv : GV C x y) (h : Φ y l) (pos : Pos) : W C A l (eval (.Name x pos) env) Φ := fun R f s S => by
  have hkp := S.base.trans S.live
  have g : s.heap.Ns env.globals C.mg := by rw [hg]; exact C.g.keeps hkp
  have b : s.heap.Ns env.builtins C.mb := by rw [hb]; exact C.b.keeps hkp
  rcases hv with ⟨v, e, i⟩ | ⟨e, hn, v, e', i⟩
  · exact Name_function_global hk hx (loadGlobal_global (env := env) g e (post (.refl f) S (i f S.base) h)) hd
  · exact Name_function_global hk hx (loadGlobal_builtin (env := env) g e b ((C.builtins x hn).trans e') (post (.refl f) S (i f) h)) hd
theorem ev_glob {gs : List Str} {x : Str} {y : AV} {pos : Pos} {Φ : AV → List Ent → Prop} (hT : GlobTab env gs) (hx : x ∈ gs) (hv : GV C x y) (h : Φ y l) : W C A l (eval (.Name x pos) env) Φ :=
  ld_glob hT.kind hT.globals hT.builtins (hT.glob x hx).1 (hT.glob x hx).2 hv h pos
noncomputable abbrev WA (C : Cx) (A : Around) (l : List Ent) (t : Sem (List Value)) (Φ : List AV → List Ent → Prop) : Prop := Wr C A IsAll l t Φ
theorem ar_nil {pos : Pos} {Φ : List AV → List Ent → Prop} (h : Φ [] l) : WA C A l (spliced (backTo pos (starEach [] env))) Φ :=
  fun _ f _ S => args_nil (post (.refl f) S .nil h)
noncomputable abbrev ConsP (x : AV) (Φ : List AV → List Ent → Prop) : List AV → List Ent → Prop := fun xs l => Φ (x :: xs) l
noncomputable abbrev ArgP (C : Cx) (A : Around) (env : Env) (pos : Pos) (rest : List Expr) (Φ : List AV → List Ent → Prop) : AV → List Ent → Prop := fun x l => WA C A l (spliced (backTo pos (starEach rest env))) (ConsP x Φ)
noncomputable abbrev RunP (C : Cx) (A : Around) (f : Value) (Φ : AV → List Ent → Prop) : List AV → List Ent → Prop := fun xs l => Wn C A Is l xs (fun vs => call f vs) Φ
noncomputable abbrev CalK (C : Cx) (A : Around) (env : Env) (pos : Pos) (args : List Expr) (Φ : AV → List Ent → Prop) : AV → List Ent → Prop := fun g l => ∃ a, g = .ref a ∧ keepIn (Kf C) (.ref a) = true ∧ WA C A l (spliced (backTo pos (starEach args env))) (RunP C A (.ref a) Φ)
noncomputable abbrev CalB (C : Cx) (A : Around) (env : Env) (pos : Pos) (args : List Expr) (Φ : AV → List Ent → Prop) : AV → List Ent → Prop := fun g l => ∃ id, g = .builtin id ∧ WA C A l (spliced (backTo pos (starEach args env))) (RunP C A (.builtin id) Φ)
noncomputable abbrev CalT (C : Cx) (A : Around) (env : Env) (pos : Pos) (args : List Expr) (Φ : AV → List Ent → Prop) : AV → List Ent → Prop := fun g l => ∃ id, g = .type id ∧ WA C A l (spliced (backTo pos (starEach args env))) (RunP C A (.type id) Φ)
theorem ar_cons {e : Expr} {rest : List Expr} {pos : Pos} {Φ : List AV → List Ent → Prop}
    (h : W C A l (eval e env) (ArgP C A env pos rest Φ))
    (he : starEach (e :: rest) env = (false, eval e env) :: starEach rest env := by rfl) : WA C A l (spliced (backTo pos (starEach (e :: rest) env))) Φ :=
  fun _ _ _ S => args_cons (h.run S fun _ _ _ _ _ a₁ S₁ r₁ k₁ => k₁.run S₁ fun _ _ _ _ _ a₂ S₂ r₂ k₂ => post (a₁.trans a₂) S₂ (.cons (r₁.mono a₂) r₂) k₂) he
theorem ev_callK {func e : Expr} {rest : List Expr} {pos : Pos} {Φ : AV → List Ent → Prop}
    (h : W C A l (eval func env) (CalK C A env pos (e :: rest) Φ))
    (he : eval (.Call func (e :: rest) [] pos) env = (do callWith pos (← eval func env) [] (backTo pos (starEach (e :: rest) env)) (backToKw pos (keywordEach [] env))) := by rfl)
    (hs : starEach (e :: rest) env = (false, eval e env) :: starEach rest env := by rfl) (hp : (backTo pos (starEach rest env)).any (·.1) = false := by rfl) :
    W C A l (eval (.Call func (e :: rest) [] pos) env) Φ := fun R f s S =>
  Call_ (h.run S fun f₁ g l₁ v s₁ a₁ S₁ r₁ k₁ => by
    obtain ⟨a, rfl, hk, k⟩ := k₁
    cases r₁
    exact callWith_K (C.kin) hk (k.run S₁ fun f₂ xs l₂ vs s₂ a₂ S₂ r₂ k₂ => ⟨C.kin.keeps (S₂.base.trans S₂.live), wp_up (a₁.trans a₂) (k₂ _ _ _ _ S₂ r₂)⟩) hs hp) he
theorem callWith_mach {M : Model} {E : Value → Shared → Prop} {s : Shared} {pos : Pos} {g : Value} {first : List Value} {args : List (Bool × Sem Value)} {Q : Value → Shared → Prop} (hg : keeperOf g = pure .machine) (hplain : args.any (·.1) = false)
    (h : wpAny M A (evalArgs g true args []) (fun a s₁ => wpAny M A (call g (first ++ a.pos) a.kw) Q E s₁) E s) :
    wpAny M A (callWith pos g first args []) Q E s := by
  unfold callWith
  refine wpAny_bind (wpAny_holding (wpAny_mono h (fun a s₁ h₁ => wpAny_bind (wpAny_standAt ?_)) fun _ _ x => x))
  simp only [hplain, List.any_nil, Bool.or_false, hg]
  refine wpAny_bind (wpAny_pure ?_)
  exact wpAny_bind (wpAny_mono h₁ (fun r s₂ hr => wpAny_bind (wpAny_holding (wpAny_point (wpAny_pure hr)))) fun _ _ x => x)
theorem ev_callB {func e : Expr} {rest : List Expr} {pos : Pos} {Φ : AV → List Ent → Prop}
    (h : W C A l (eval func env) (CalB C A env pos (e :: rest) Φ))
    (he : eval (.Call func (e :: rest) [] pos) env = (do callWith pos (← eval func env) [] (backTo pos (starEach (e :: rest) env)) (backToKw pos (keywordEach [] env))) := by rfl)
    (hs : starEach (e :: rest) env = (false, eval e env) :: starEach rest env := by rfl) (hp : (backTo pos (starEach rest env)).any (·.1) = false := by rfl) :
    W C A l (eval (.Call func (e :: rest) [] pos) env) Φ := fun R f s S =>
  Call_ (h.run S fun f₁ g l₁ v s₁ a₁ S₁ r₁ k₁ => by
    obtain ⟨id, rfl, k⟩ := k₁
    cases r₁
    rw [hs]
    rw [hs] at k
    exact callWith_mach rfl (by show (false || (backTo pos (starEach rest env)).any (·.1)) = false; rw [hp]; rfl) (Calls.evalArgs_plain (k.run S₁ fun f₂ xs l₂ vs s₂ a₂ S₂ r₂ k₂ => wp_up (a₁.trans a₂) (k₂ _ _ _ _ S₂ r₂)))) he
theorem ev_callT {func e : Expr} {rest : List Expr} {pos : Pos} {Φ : AV → List Ent → Prop}
    (h : W C A l (eval func env) (CalT C A env pos (e :: rest) Φ))
    (he : eval (.Call func (e :: rest) [] pos) env = (do callWith pos (← eval func env) [] (backTo pos (starEach (e :: rest) env)) (backToKw pos (keywordEach [] env))) := by rfl)
    (hs : starEach (e :: rest) env = (false, eval e env) :: starEach rest env := by rfl) (hp : (backTo pos (starEach rest env)).any (·.1) = false := by rfl) :
    W C A l (eval (.Call func (e :: rest) [] pos) env) Φ := fun R f s S =>
  Call_ (h.run S fun f₁ g l₁ v s₁ a₁ S₁ r₁ k₁ => by
    obtain ⟨id, rfl, k⟩ := k₁
    cases r₁
    rw [hs]
    rw [hs] at k
    exact callWith_mach rfl (by show (false || (backTo pos (starEach rest env)).any (·.1)) = false; rw [hp]; rfl) (Calls.evalArgs_plain (k.run S₁ fun f₂ xs l₂ vs s₂ a₂ S₂ r₂ k₂ => wp_up (a₁.trans a₂) (k₂ _ _ _ _ S₂ r₂)))) he
end
end Mine
end
section
open PySem PySem.W PySem.Calls PyProof.Rows
namespace Mine
section
variable {α β : Type} {C : Cx} {A : Around} {l l' : List Ent} {env : Env}
theorem St.isL {f : PH} {s : Shared} {a : Addr} {xs : List AV} {L : List Ent} (S : St C f L s) (h : lst a xs ∈ L) : ∃ vs n, IsL s.heap a vs n ∧ IsAll f xs vs.toList := by
  obtain ⟨o, ho, vs, n, rfl, hi⟩ := S.get h; exact ⟨vs, n, ho, hi⟩
theorem IsAll.one {f : PH} {x : AV} {vs : List Value} (h : IsAll f [x] vs) : ∃ v, vs = [v] ∧ Is f x v := by
  cases h with
  | cons a t => cases t; exact ⟨_, rfl, a⟩
theorem IsAll.two {f : PH} {x y : AV} {vs : List Value} (h : IsAll f [x, y] vs) : ∃ v u, vs = [v, u] ∧ Is f x v ∧ Is f y u := by
  cases h with
  | cons a t => obtain ⟨u, rfl, b⟩ := t.one; exact ⟨_, u, rfl, a, b⟩
theorem IsAll.three {f : PH} {x y z : AV} {vs : List Value} (h : IsAll f [x, y, z] vs) : ∃ v u w, vs = [v, u, w] ∧ Is f x v ∧ Is f y u ∧ Is f z w := by
  cases h with
  | cons a t => obtain ⟨u, w, rfl, b⟩ := t.two; exact ⟨_, u, w, rfl, a, b⟩
theorem Is.refE {f : PH} {a : Addr} {v : Value} (h : Is f (.ref a) v) : v = .ref a := by cases h; rfl
theorem Is.intE {f : PH} {i : Int} {v : Value} (h : Is f (.int i) v) : ∃ t, v = .int i t := by cases h; exact ⟨_, rfl⟩
theorem Is.strE {f : PH} {x : Str} {v : Value} (h : Is f (.str x) v) : ∃ t, v = .str x t := by cases h; exact ⟨_, rfl⟩
theorem Is.tupE {f : PH} {xs : List AV} {v : Value} (h : Is f (.tup xs) v) : ∃ a vs n, v = .ref a ∧ f a = some { cls := .type "tuple", dict := .none, data := .seq vs.toArray n, slots := #[] } ∧ IsAll f xs vs := by
  cases h with
  | tup ho hi => exact ⟨_, _, _, rfl, ho, hi⟩
noncomputable abbrev ListP (Φ : AV → List Ent → Prop) : List AV → List Ent → Prop := fun xs l => xs.length ≤ 1000 ∧ ∀ a, Φ (.ref a) (lst a xs :: l)
noncomputable abbrev TupP (Φ : AV → List Ent → Prop) : List AV → List Ent → Prop := fun xs l => xs.length ≤ 1000 ∧ Φ (.tup xs) l
theorem ev_list {elts : List Expr} {pos : Pos} {Φ : AV → List Ent → Prop}
    (h : WA C A l (spliced (backTo pos (starEach elts env))) (ListP Φ)) : W C A l (eval (.List elts pos) env) Φ := fun R f s S =>
  List_ (h.run S fun f₁ xs l₁ vs s₁ a₁ S₁ r₁ k₁ => wpAny_newObj_type (post a₁ (S₁.push (e := lst s₁.heap.objs.size xs) rfl ⟨vs.toArray, 0, rfl, by simpa using r₁⟩ rfl rfl rfl rfl) (.ref _) (k₁.2 _))
    (by show vs.toArray.size ≤ sizeLine; rw [sizeLine_eq]; have := r₁.length; simp; omega))
theorem ev_tup {elts : List Expr} {k : Nat} {pos : Pos} {Φ : AV → List Ent → Prop}
    (h : WA C A l (spliced (backTo pos (starEach elts env))) (TupP Φ)) : W C A l (eval (.Tuple elts k pos) env) Φ := fun R f s S =>
  Tuple_ (h.run S fun f₁ xs l₁ vs s₁ a₁ S₁ r₁ k₁ => by
    refine wpAny_newObj_type ?_ (by show vs.toArray.size ≤ sizeLine; rw [sizeLine_eq]; have := r₁.length; simp; omega)
    obtain ⟨f₂, h₁, h₂, h₃⟩ := St.freeze (o := { cls := .type "tuple", data := .seq vs.toArray }) (s' := { s₁ with heap := s₁.heap.push { cls := .type "tuple", data := .seq vs.toArray } }) S₁ rfl rfl rfl rfl
    exact post (a₁.trans h₁) h₃ (.tup h₂ (r₁.mono h₁)) k₁.2)
theorem m_append {a : Addr} {xs : List AV} {x : AV} {Φ : AV → List Ent → Prop} (U : Upd1 (lst a xs) (lst a (xs ++ [x])) l l') (hz : xs.length ≤ 100000) (h : Φ .none l') :
    Wn C A Is l [.ref a, x] (fun vs => call (.builtin "list.append") vs) Φ := fun R f s vs S hv => by
  obtain ⟨_, u, rfl, h1, h2⟩ := hv.two
  obtain rfl := h1.refE
  obtain ⟨ws, n, hl, hi⟩ := S.isL (List.mem_append_left R U.mem)
  have hsz : ws.size ≤ sizeLine := by rw [sizeLine_eq]; have := hi.length; simp at this; omega
  refine call_meets F.slot_list_append ⟨_, hl, rfl⟩ F.entry_list_append (F.args_list_append_2 _ _) (list_append a ws n u hsz) ⟨hl, ?_⟩
  refine post (.refl f) (S.upd U rfl (Heap.SameBut.update ..) ⟨_, IsL.update hl _, _, _, rfl, ?_⟩ rfl rfl rfl) .none h
  simpa using hi.append (.cons h2 .nil)
theorem m_pop {a : Addr} {xs : List AV} {x : AV} {Φ : AV → List Ent → Prop} (U : Upd1 (lst a (xs ++ [x])) (lst a xs) l l') (hz : xs.length ≤ 100000) (h : Φ x l') :
    Wn C A Is l [.ref a] (fun vs => call (.builtin "list.pop") vs) Φ := fun R f s vs S hv => by
  obtain ⟨_, rfl, h1⟩ := hv.one
  obtain rfl := h1.refE
  obtain ⟨ws, n, hl, hi⟩ := S.isL (List.mem_append_left R U.mem)
  obtain ⟨us, ts, e, hu, ht⟩ := hi.split
  obtain ⟨u, rfl, h2⟩ := ht.one
  obtain ⟨wl⟩ := ws
  simp only at e; subst e
  have hul := hu.length
  have hsz : ((us ++ [u]).toArray).size ≤ sizeLine := by rw [sizeLine_eq]; simp; omega
  refine call_meets F.slot_list_pop ⟨_, hl, rfl⟩ F.entry_list_pop (F.args_list_pop_1 _) (MeetsSeq.list_pop_last a (us ++ [u]).toArray n u (by simp) hsz) ⟨hl, ?_⟩
  refine post (.refl f) (S.upd U rfl (Heap.SameBut.update ..) ⟨_, IsL.update hl _, _, _, rfl, ?_⟩ rfl rfl rfl) h2 h
  simpa [List.eraseIdx_append_of_length_le] using hu
theorem b_len_list {a : Addr} {xs : List AV} {Φ : AV → List Ent → Prop} (hm : lst a xs ∈ l) (hz : xs.length ≤ 100000) (h : Φ (.int xs.length) l) : Wn C A Is l [.ref a] (fun vs => call (.builtin "len") vs) Φ := fun R f s vs S hv => by
  obtain ⟨_, rfl, h1⟩ := hv.one
  obtain rfl := h1.refE
  obtain ⟨ws, n, hl, hi⟩ := S.isL (List.mem_append_left R hm)
  have e : ws.size = xs.length := by have := hi.length; simpa using this
  exact call_len_list hl.isList (by omega) (post (.refl f) (S.toks _) (by rw [e]; exact .int _ _) h)
theorem b_len_tup {xs : List AV} {Φ : AV → List Ent → Prop} (hz : xs.length ≤ 100000) (h : Φ (.int xs.length) l) : Wn C A Is l [.tup xs] (fun vs => call (.builtin "len") vs) Φ := fun R f s vs S hv => by
  obtain ⟨_, rfl, h1⟩ := hv.one
  obtain ⟨a, ws, n, rfl, ho, hi⟩ := h1.tupE
  have e : ws.length = xs.length := hi.length
  exact P.len_tuple (S.live _ _ ho) (by simp; omega) (post (.refl f) (S.toks _) (by simp only [List.size_toArray, e]; exact .int _ _) h)
theorem subscripted_ops (slice : Expr) (o i : Value) : ∃ ops, subscripted slice false o i = operate ops (getItem o i) := by
  cases slice with
  | Slice a b c p => cases c with
    | none => exact ⟨_, rfl⟩
    | some c => exact ⟨_, rfl⟩
  | _ => exact ⟨_, rfl⟩
theorem sub_tail {E : Value → Shared → Prop} {s : Shared} {value slice : Expr} {o i : Value} {T id : String} {Q : Value → Shared → Prop} (hT : s.TypeIs o T)
    (hl : typeLookup (.type T) "__getitem__" = pure (some (.builtin id))) (h : wpAny C.M A (getItem o i) Q E s) : wpAny C.M A (subscriptTail value slice o i) Q E s := by
  unfold subscriptTail
  refine wpAny_bind ?_
  rw [getitemInPython_of_ne hT.not_modules]
  refine wpAny_bind (wpAny_specialOf hT hl ?_)
  have fin : wpAny C.M A (subscripted slice false o i) (fun r s₃ => wpAny C.M A (letTemporaryGo value o r >>= fun _ => pure r) Q E s₃) E s := by
    obtain ⟨ops, e⟩ := subscripted_ops slice o i
    rw [e]
    exact wpAny_operating (wpAny_mono h (fun r s₃ h₃ => wpAny_bind (wpAny_letTemporaryGo (wpAny_pure h₃))) fun _ _ x => x)
  first
    | exact wpAny_pure (wpAny_bind fin)
    | exact wpAny_bind (wpAny_pure (wpAny_bind fin))
    | exact wpAny_bind fin
theorem ev_sub {value slice : Expr} {pos : Pos} {Φ : AV → List Ent → Prop}
    (h : W C A l (eval value env) (Bin1 C A env slice (fun o i => subscriptTail value slice o i) Φ)) : W C A l (eval (.Subscript value slice pos) env) Φ :=
  fun _ _ _ S => Subscript_ (h.run S fun _ _ _ _ _ a₁ S₁ r₁ k₁ => k₁.run S₁ fun _ _ _ _ _ a₂ S₂ r₂ k₂ => wp_up (a₁.trans a₂) (k₂ _ _ _ _ _ S₂ (r₁.mono a₂) r₂))
inductive At {γ : Type} : List γ → Int → γ → Prop
  | pos {xs : List γ} {i : Int} {x : γ} : 0 ≤ i → xs[i.toNat]? = some x → At xs i x
  | last {xs ys : List γ} {x : γ} : xs = ys ++ [x] → At xs (-1) x
theorem At.idx {γ : Type} {xs : List γ} {i : Int} {x : γ} (h : At xs i x) : ∃ j, seqIndex? i xs.length = some j ∧ xs[j]? = some x := by
  cases h with
  | pos h0 hx =>
    obtain ⟨hlt, _⟩ := List.getElem?_eq_some_iff.mp hx
    exact ⟨i.toNat, seqIndex_of h0 (by omega), hx⟩
  | @last ys x e =>
    subst e
    refine ⟨ys.length, ?_, by simp⟩
    unfold seqIndex?
    simp only [List.length_append, List.length_cons, List.length_nil]
    have e1 : ((-1 : Int) + ((ys.length + (0 + 1) : Nat) : Int)) = (ys.length : Int) := by omega
    rw [if_pos (show (-1 : Int) < 0 by decide), e1]
    rw [if_pos (by simp only [Bool.and_eq_true, decide_eq_true_eq]; omega)]
    simp
theorem gi_list {value slice : Expr} {a : Addr} {xs : List AV} {i : Int} {x : AV} {Φ : AV → List Ent → Prop} (hm : lst a xs ∈ l) (hx : At xs i x) (hz : xs.length ≤ 100000) (h : Φ x l) :
    W2 C A Is l (.ref a) (.int i) (fun o i => subscriptTail value slice o i) Φ := fun R f s v u S hv hu => by
  obtain rfl := hv.refE
  obtain ⟨t, rfl⟩ := hu.intE
  obtain ⟨ws, n, hl, hi⟩ := S.isL (List.mem_append_left R hm)
  have e : ws.size = xs.length := by have := hi.length; simpa using this
  refine sub_tail (Heap.IsList.typeIs hl.isList) F.slot_list_getitem.lookup ?_
  cases hx with
  | pos h0 hx =>
    have hlt := (List.getElem?_eq_some_iff.mp hx).1
    obtain ⟨w, hw, hiw⟩ := hi.get hx
    exact wpAny_getItem_list hl.isList h0 (by omega) (by simpa using hw) (post (.refl f) S hiw h)
  | @last ys y eq =>
    subst eq
    obtain ⟨w, hw, hiw⟩ := hi.get (i := ys.length) (x := x) (by simp)
    have e' : ws.size = ys.length + 1 := by rw [e]; simp
    refine wpAny_getItem_list_neg hl.isList (by decide) (by omega) (by decide) ?_ (post (.refl f) S hiw h)
    rw [e', show ((-1 : Int) + ((ys.length + 1 : Nat) : Int)).toNat = ys.length by omega]
    simpa using hw
theorem gi_tup {value slice : Expr} {xs : List AV} {i : Int} {x : AV} {Φ : AV → List Ent → Prop} (hx : At xs i x) (hz : xs.length ≤ 100000) (h : Φ x l) :
    W2 C A Is l (.tup xs) (.int i) (fun o i => subscriptTail value slice o i) Φ := fun R f s v u S hv hu => by
  cases hu
  obtain ⟨a, ws, n, rfl, ho, hi⟩ := hv.tupE
  obtain ⟨j, hj, hxj⟩ := hx.idx
  obtain ⟨w, hw, hiw⟩ := hi.get hxj
  have e : ws.toArray.size = xs.length := by have := hi.length; simpa using this
  have hb : -100000 ≤ i ∧ i ≤ 100000 := by
    cases hx with
    | pos h0 hx => have := (List.getElem?_eq_some_iff.mp hx).1; omega
    | last => omega
  have hT : IsT s.heap a ws.toArray n := S.live _ _ ho
  exact sub_tail ⟨_, hT, rfl⟩ F.slot_tuple_getitem.lookup (P.getItem_tuple hT (by omega) (by omega) (by rw [e]; exact hj) (by simpa using hw) (post (.refl f) S hiw h))
theorem gi_str {value slice : Expr} {x : Str} {i : Int} {c : Nat} {Φ : AV → List Ent → Prop} (hx : At x.cps.toList i c) (hz : x.length ≤ 100000) (h : Φ (.str ⟨#[c]⟩) l) :
    W2 C A Is l (.str x) (.int i) (fun o i => subscriptTail value slice o i) Φ := fun R f s v u S hv hu => by
  cases hv; cases hu
  obtain ⟨j, hj, hxj⟩ := hx.idx
  have hl : x.cps.toList.length = x.length := by simp [Str.length]
  have hb : -100000 ≤ i ∧ i ≤ 100000 := by
    cases hx with
    | pos h0 hx => have := (List.getElem?_eq_some_iff.mp hx).1; omega
    | last => omega
  refine sub_tail (typeIs_str s x _) F.slot_str_getitem.lookup (P.getItem_str (c := c) ?_ ?_ (post (.refl f) (S.toks _) (.str _ _) h))
  · simp; omega
  · rw [← hl, hj]; simpa using hxj
end
end Mine
end
section
open PySem PySem.W PySem.Calls PyProof.Rows
namespace Mine
section
variable {α β : Type} {C : Cx} {A : Around} {l l' : List Ent} {env : Env}
structure BM (T : String) (name : Str) (id : String) : Prop where
  pa : PlainAttrs T
  slot : Slot T name id
  hty : typeOf (.builtin id) = pure (.type "method_descriptor")
inductive BTy (l : List Ent) : AV → String → Prop
  | list {a : Addr} {xs : List AV} : lst a xs ∈ l → BTy l (.ref a) "list"
  | dict {K : Type} [DecidableEq K] {w : World} {knd : KeyKind prg w K} {a : Addr} {kv : List (K × AV)} {oe : Option Nat} : dic w knd a kv oe ∈ l → BTy l (.ref a) "dict"
  | str {x : Str} : BTy l (.str x) "str"
  | ent {e : Ent} (h : ∀ f o, e.P f o → o.cls = .type "dict" ∧ o.dict = .none) : e ∈ l → BTy l (.ref e.a) "dict"
theorem BTy.typeIs {R : List Ent} {f : PH} {s : Shared} {x : AV} {v : Value} {T : String} (h : BTy l x T) (S : St C f (l ++ R) s) (hv : Is f x v) : s.TypeIs v T ∧ ∀ a, v = .ref a → ∃ ob, s.heap.get? a = some ob ∧ ob.dict = none := by
  cases h with
  | list hm =>
    obtain rfl := hv.refE
    obtain ⟨ws, n, hl, _⟩ := S.isL (List.mem_append_left R hm)
    exact ⟨⟨_, hl, rfl⟩, fun a e => by cases e; exact ⟨_, hl, rfl⟩⟩
  | dict hm =>
    obtain rfl := hv.refE
    obtain ⟨o, ho, _, kvs, es, ep, hc, _⟩ := S.get (List.mem_append_left R hm)
    exact ⟨⟨o, ho, hc.1⟩, fun a e => by cases e; exact ⟨o, ho, hc.2.1⟩⟩
  | str => obtain ⟨t, rfl⟩ := hv.strE; exact ⟨typeIs_str _ _ _, fun a e => (nomatch e)⟩
  | @ent en h hm =>
    obtain rfl := hv.refE
    obtain ⟨o, ho, hp⟩ := S.get (List.mem_append_left R hm)
    obtain ⟨h1, h2⟩ := h _ _ hp
    exact ⟨⟨o, ho, h1⟩, fun a e => by cases e; exact ⟨o, ho, h2⟩⟩
noncomputable abbrev RunX (C : Cx) (A : Around) (x : AV) (f : Value) (Φ : AV → List Ent → Prop) : List AV → List Ent → Prop := fun xs l => Wn C A Is l (x :: xs) (fun vs => call f vs) Φ
noncomputable abbrev CalM (C : Cx) (A : Around) (env : Env) (pos : Pos) (args : List Expr) (T : String) (f : Value) (Φ : AV → List Ent → Prop) : AV → List Ent → Prop := fun x l => BTy l x T ∧ WA C A l (spliced (backTo pos (starEach args env))) (RunX C A x f Φ)
theorem ev_bm {o e : Expr} {rest : List Expr} {name : Str} {apos pos : Pos} {T id : String} {Φ : AV → List Ent → Prop} (B : BM T name id)
    (h : W C A l (eval o env) (CalM C A env pos (e :: rest) T (.builtin id) Φ))
    (hb : attributeBase o name env (eval o env) = eval o env := by rfl)
    (hf : ((backTo pos (starEach (e :: rest) env)).all (fun x => !x.1) && (backToKw pos (keywordEach [] env)).all (fun x => x.1.isSome) && decide ((e :: rest).length + ([] : List Keyword).length + (if ([] : List Keyword).isEmpty then 0 else 1) < 30)) = true := by rfl)
    (hl : (apos.endLine == pos.line) = true := by rfl)
    (hs : starEach (e :: rest) env = (false, eval e env) :: starEach rest env := by rfl) (hp : (backTo pos (starEach rest env)).any (·.1) = false := by rfl) :
    W C A l (eval (.Call (.Attribute o name apos) (e :: rest) [] pos) env) Φ := fun R f s S =>
  wpAny_Call_method hb hf hl B.pa B.slot B.hty (h.run S fun f₁ x l₁ v s₁ a₁ S₁ r₁ k₁ => by
    obtain ⟨bt, k⟩ := k₁
    have ht := bt.typeIs S₁ r₁
    refine ⟨ht.1, ht.2, ?_⟩
    rw [hs]
    rw [hs] at k
    exact callWith_mach rfl (by show (false || (backTo pos (starEach rest env)).any (·.1)) = false; rw [hp]; rfl)
      (Calls.evalArgs_plain (k.run S₁ fun f₂ xs l₂ vs s₂ a₂ S₂ r₂ k₂ => wp_up (a₁.trans a₂) (k₂ _ _ _ _ S₂ (.cons (r₁.mono a₂) r₂)))))
theorem ev_bm0 {o : Expr} {name : Str} {apos pos : Pos} {T id : String} {Φ : AV → List Ent → Prop} (B : BM T name id)
    (h : W C A l (eval o env) fun x l₁ => BTy l₁ x T ∧ Wn C A Is l₁ [x] (fun vs => call (.builtin id) vs) Φ)
    (hb : attributeBase o name env (eval o env) = eval o env := by rfl)
    (hf : ((backTo pos (starEach [] env)).all (fun x => !x.1) && (backToKw pos (keywordEach [] env)).all (fun x => x.1.isSome) && decide (([] : List Expr).length + ([] : List Keyword).length + (if ([] : List Keyword).isEmpty then 0 else 1) < 30)) = true := by rfl)
    (hl : (apos.endLine == pos.line) = true := by rfl) : W C A l (eval (.Call (.Attribute o name apos) [] [] pos) env) Φ := fun R f s S =>
  wpAny_Call_method hb hf hl B.pa B.slot B.hty (h.run S fun f₁ x l₁ v s₁ a₁ S₁ r₁ k₁ => by
    obtain ⟨bt, k⟩ := k₁
    have ht := bt.typeIs S₁ r₁
    refine ⟨ht.1, ht.2, ?_⟩
    exact callWith_mach rfl rfl (PySem.evalArgs_none (wp_up a₁ (k _ _ _ _ S₁ (.cons r₁ .nil)))))
theorem bm_append : BM "list" "append" "list.append" := ⟨F.plainAttrs_list, F.slot_list_append, F.type_list_append⟩
theorem bm_pop : BM "list" "pop" "list.pop" := ⟨F.plainAttrs_list, F.slot_list_pop, F.type_list_pop⟩
theorem b_min {i j : Int} {n : Nat} {Φ : AV → List Ent → Prop} (r : Room A n) (h : Φ (.int (min i j)) l) : Wn C A Is l [.int i, .int j] (fun vs => call (.builtin "min") vs) Φ := fun R f s vs S hv => by
  obtain ⟨_, _, rfl, h1, h2⟩ := hv.two
  obtain ⟨t, rfl⟩ := h1.intE
  obtain ⟨u, rfl⟩ := h2.intE
  refine min_two_ints r.handled fun h' tk hk => post (.refl f) (S.grow hk rfl rfl) ?_ h
  by_cases c : j < i
  · rw [if_pos c, show min i j = j by omega]; exact .int _ _
  · rw [if_neg c, show min i j = i by omega]; exact .int _ _
theorem b_max {i j : Int} {n : Nat} {Φ : AV → List Ent → Prop} (r : Room A n) (h : Φ (.int (max i j)) l) : Wn C A Is l [.int i, .int j] (fun vs => call (.builtin "max") vs) Φ := fun R f s vs S hv => by
  obtain ⟨_, _, rfl, h1, h2⟩ := hv.two
  obtain ⟨t, rfl⟩ := h1.intE
  obtain ⟨u, rfl⟩ := h2.intE
  refine max_two_ints r.handled fun h' tk hk => post (.refl f) (S.grow hk rfl rfl) ?_ h
  by_cases c : j > i
  · rw [if_pos c, show max i j = j by omega]; exact .int _ _
  · rw [if_neg c, show max i j = i by omega]; exact .int _ _
theorem b_abs {i : Int} {Φ : AV → List Ent → Prop} (h : Φ (.int (i.natAbs : Int)) l) : Wn C A Is l [.int i] (fun vs => call (.builtin "abs") vs) Φ := fun R f s vs S hv => by
  obtain ⟨_, rfl, h1⟩ := hv.one
  obtain ⟨t, rfl⟩ := h1.intE
  refine call_abs_int fun u tk => post (.refl f) (S.toks _) ?_ h
  rw [show (if i < 0 then -i else i) = (i.natAbs : Int) by split <;> omega]; exact .int _ _
theorem b_chr {i : Int} {Φ : AV → List Ent → Prop} (h0 : 0 ≤ i) (h1 : i ≤ 1000) (h : Φ (.str ⟨#[i.toNat]⟩) l) : Wn C A Is l [.int i] (fun vs => call (.builtin "chr") vs) Φ := fun R f s vs S hv => by
  obtain ⟨_, rfl, hi⟩ := hv.one
  obtain ⟨t, rfl⟩ := hi.intE
  exact chr_of_range h0 (by omega) (post (.refl f) (S.toks _) (.str _ _) h)
theorem b_ord {c : Nat} {Φ : AV → List Ent → Prop} (h : Φ (.int c) l) : Wn C A Is l [.str ⟨#[c]⟩] (fun vs => call (.builtin "ord") vs) Φ := fun R f s vs S hv => by
  obtain ⟨_, rfl, hi⟩ := hv.one
  obtain ⟨t, rfl⟩ := hi.strE
  exact P.ord_of_char (post (.refl f) (S.toks _) (.int _ _) h)
theorem t_int_bool {b : Bool} {Φ : AV → List Ent → Prop} (h : Φ (.int (if b then 1 else 0)) l) : Wn C A Is l [.bool b] (fun vs => call (.type "int") vs) Φ := fun R f s vs S hv => by
  obtain ⟨_, rfl, hi⟩ := hv.one
  cases hi
  exact call_int_bool (post (.refl f) (S.toks _) (.int _ _) h)
theorem c2_ne_nil {a b : Addr} {xs : List AV} {n : Nat} {Φ : AV → List Ent → Prop} (r : Room A n) (h1 : lst a xs ∈ l) (h2 : lst b [] ∈ l) (hz : xs.length ≤ 100000) (h : Φ (.bool (decide (xs ≠ []))) l) :
    W2 C A Is l (.ref a) (.ref b) (compareOp .NotEq) Φ := fun R f s v u S hv hu => by
  obtain rfl := hv.refE
  obtain rfl := hu.refE
  obtain ⟨ws, m, hl, hi⟩ := S.isL (List.mem_append_left R h1)
  obtain ⟨us, k, hk, hj⟩ := S.isL (List.mem_append_left R h2)
  have hus : us = #[] := by cases us with | mk us => cases hj; rfl
  subst hus
  have e : ws.size = xs.length := by have := hi.length; simpa using this
  by_cases hx : xs = []
  · subst hx
    have hws : ws = #[] := by cases ws with | mk ws => cases hi; rfl
    subst hws
    refine richCompare_meets_room (op := .NotEq) ⟨_, hl, rfl⟩ ⟨_, hk, rfl⟩ F.slot_list_ne F.entry_list_ne (F.args_list_ne_2 _ _) (SeqAt.list_neAt a b #[] #[] m k none none #[] #[] rfl (fun _ => true))
      ⟨hl, hk, (fun j h1 => absurd h1 (by simp)), (fun x => nomatch x), post (.refl f) S (.bool _) (by simpa using h)⟩ r.line
  · refine richCompare_meets_room (op := .NotEq) ⟨_, hl, rfl⟩ ⟨_, hk, rfl⟩ F.slot_list_ne F.entry_list_ne (F.args_list_ne_2 _ _) (SeqAt.list_ne_lengthsAt a b ws #[] m k none none #[] #[] ?_)
      ⟨hl, hk, (fun x => nomatch x), post (.refl f) S (.bool _) (by simpa [hx] using h)⟩ r.line
    have : xs.length ≠ 0 := fun q => hx (List.length_eq_zero_iff.mp q)
    simp [e, this]
end
end Mine
end
section
open PySem PySem.W PySem.Calls PyProof.Rows
namespace Mine
inductive TrisAre (f : PH) : List (List Int × AV) → List (List Int × Addr × Value) → Prop
  | nil : TrisAre f [] []
  | cons {k : List Int} {x : AV} {a : Addr} {v : Value} {xs : List (List Int × AV)} {vs : List (List Int × Addr × Value)} : Is f (.tup (k.map .int)) (.ref a) → Is f x v → TrisAre f xs vs → TrisAre f ((k, x) :: xs) ((k, a, v) :: vs)
theorem TrisAre.mono {f g : PH} (s : Sub f g) {xs : List (List Int × AV)} {vs : List (List Int × Addr × Value)} (h : TrisAre f xs vs) : TrisAre g xs vs := by
  induction h with
  | nil => exact .nil
  | cons a b _ ih => exact .cons (a.mono s) (b.mono s) ih
theorem TrisAre.length {f : PH} {xs : List (List Int × AV)} {vs : List (List Int × Addr × Value)} (h : TrisAre f xs vs) : vs.length = xs.length := by
  induction h with
  | nil => rfl
  | cons _ _ _ ih => simp [ih]
theorem TrisAre.get {f : PH} {xs : List (List Int × AV)} {vs : List (List Int × Addr × Value)} {i : Nat} {p : List Int × AV} (h : TrisAre f xs vs) (e : xs[i]? = some p) : ∃ a v, vs[i]? = some (p.1, a, v) ∧ Is f (.tup (p.1.map .int)) (.ref a) ∧ Is f p.2 v := by
  induction h generalizing i with
  | nil => cases e
  | cons h k _ ih => cases i with
    | zero => cases e; exact ⟨_, _, rfl, h, k⟩
    | succ i => exact ih (i := i) e
noncomputable abbrev tKind (w : World) : HeapKind prg w (List Int) := tupleKind (intKind prg w)
noncomputable def dicT (w : World) (a : Addr) (kv : List (List Int × AV)) (oe : Option Nat := none) : Ent where
  a := a
  P := fun f o => (a == sysModules) = false ∧ ∃ xs es ep, o.ExactDict ∧ o.data = .dict es ep ∧ es.toList = xs.map (entryOfKey (tKind w)) ∧ (xs.map (·.1)).Nodup ∧ TrisAre f kv xs ∧ ∀ e, oe = some e → ep = e
  mono := fun s h => by obtain ⟨h, xs, es, ep, h1, h2, h3, h4, h5, h6⟩ := h; exact ⟨h, xs, es, ep, h1, h2, h3, h4, h5.mono s, h6⟩
section
variable {prog : Program} {w : World} {A : Around} {E : Value → Shared → Prop} {s : Shared}
theorem iter_raw {d : Addr} {o : Obj} {es : Array DictEntry} {ep : Nat} {Q : Value → Shared → Prop} (hd : (d == sysModules) = false) (ho : s.heap.get? d = some o) (hc : o.ExactDict) (hdat : o.data = .dict es ep)
    (hQ : Q (.ref s.heap.objs.size) { s with heap := s.heap.push { cls := .type "dict_keyiterator", data := .fields #[.ref d, .int 0 0, .int es.size 0, .int ep 0] } }) :
    wpAny (model prog w) A (pyIter (.ref d)) Q E s := by
  have hT : s.TypeIs (.ref d) "dict" := ⟨o, ho, hc.1⟩
  refine wpAny_pyIter_slot hT F.slot_dict_iter (wpAny_call_entry F.slot_dict_iter hT F.entry_dict_iter ?_ (F.args_dict_iter_1 _))
  unfold Builtin.«dict.__iter__»
  refine wpAny_bind ?_
  unfold Builtin.Dict.dictSlotNone
  refine wpAny_bind (wpAny_notOrdered_dict hT ?_)
  show wpAny _ _ (pure (Value.ref d)) _ _ s
  refine wpAny_pure ?_
  show wpAny _ _ (Builtin.Dict.showsAll d >>= _) _ _ s
  unfold Builtin.Dict.showsAll
  rw [if_neg (by rw [hd]; exact Bool.false_ne_true)]
  refine wpAny_bind (wpAny_pure ?_)
  refine wpAny_bind (wpAny_dictEntries ho hdat ?_)
  refine wpAny_bind (wpAny_dictEpoch ho hdat ?_)
  refine wpAny_bind (wpAny_newObj_type (wpAny_pure ⟨_, rfl, "dict_keyiterator", _, ⟨_, Heap.get?_push_size _ rfl, rfl⟩, F.slot_dict_keyiterator_next.lookup, ?_⟩))
  simpa [rawInt] using hQ
theorem next_raw {it d : Addr} {i ep : Nat} {o : Obj} {es : Array DictEntry} {Q : Option Value → Shared → Prop} (hit : s.heap.IsKeyIter it d i es.size ep)
    (hod : s.heap.get? d = some o) (hdd : o.data = .dict es ep) (hlt : i < es.size)
    (hQ : ∀ h', h'.IsKeyIter it d (i + 1) es.size ep → Heap.SameBut it s.heap h' → Q (some es[i].key) { s with heap := h' }) :
    wpAny (model prog w) A (pyNext (.ref it)) Q E s := by
  obtain ⟨oi, ho, hc, hd⟩ := id hit
  unfold pyNext
  refine wpAny_bind (wpAny_attempt (wpAny_callSpecial?_slot (name := Str.ofString "__next__") hit.typeIs F.slot_dict_keyiterator_next
    (wpAny_call_entry F.slot_dict_keyiterator_next hit.typeIs F.entry_dict_keyiterator_next ?_ (F.args_dict_keyiterator_next_1 _))))
  refine wpAny_bind (wpAny_pure ?_)
  refine wpAny_bind ?_
  refine wpAny_bind ?_
  first | refine wpAny_bind (wpAny_typeNameOfWhole_keyiter hit.typeIs (wpAny_pure ?_)) | refine wpAny_bind (wpAny_typeNameOf_keyiter hit.typeIs (wpAny_pure ?_))
  refine wpAny_bind (wpAny_fieldsOf ho hd ?_)
  have hown : Builtin.Dict_items.ownsTuple "dict_keyiterator" = false := by decide
  simp only [hown, Bool.false_eq_true, if_false]
  show wpAny _ _ (if (Value.ref d == Value.none) = true then _ else _) _ _ s
  rw [if_neg (show ¬ ((Value.ref d == Value.none) = true) from Bool.false_ne_true)]
  refine wpAny_bind (wpAny_pure ?_)
  refine wpAny_bind (wpAny_dictEntries hod hdd ?_)
  rw [if_neg (by simp)]
  refine wpAny_bind (wpAny_pure ?_)
  refine wpAny_bind (wpAny_dictEpoch hod hdd ?_)
  rw [if_neg (by simp)]
  refine wpAny_pure ?_
  simp only [show ¬ ((i : Int) < 0) from by omega, if_false, Int.toNat_natCast, Array.getElem?_eq_getElem hlt]
  refine wpAny_bind ?_
  first | refine wpAny_bind (wpAny_typeNameOfWhole_keyiter hit.typeIs (wpAny_pure ?_)) | refine wpAny_bind (wpAny_typeNameOf_keyiter hit.typeIs (wpAny_pure ?_))
  refine wpAny_bind (wpAny_isOneOf_keyiter hit.typeIs ?_)
  show wpAny _ _ (setField (.ref it) 1 (rawInt ((i : Int) + 1)) >>= _) _ _ s
  refine wpAny_bind (wpAny_setField ho hd (by simp) ?_)
  have hit' : (s.heap.update it (Obj.mapFields (·.setIfInBounds 1 (rawInt ((i : Int) + 1))))).IsKeyIter it d (i + 1) es.size ep :=
    ⟨_, Heap.get?_update_self _ ho (Obj.isFreed_of_fields (Obj.data_mapFields hd _)), (Obj.cls_mapFields ..).trans hc, by rw [Obj.data_mapFields hd]; simp [rawInt]⟩
  refine wpAny_bind (wpAny_holding ?_)
  refine wpAny_bind (wpAny_isOneOf_keyiter (s := { s with heap := s.heap.update it (Obj.mapFields (·.setIfInBounds 1 (rawInt ((i : Int) + 1)))) }) hit'.typeIs ?_)
  show wpAny _ _ (pure es[i].key) _ _ _
  exact wpAny_pure (wpAny_pure ⟨_, rfl, wpAny_pure (hQ _ hit' (Heap.SameBut.update ..))⟩)
theorem stop_raw {it d : Addr} {i ep : Nat} {o : Obj} {es : Array DictEntry} {Q : Option Value → Shared → Prop} (hh : A.handled = none) (hit : s.heap.IsKeyIter it d i es.size ep)
    (hod : s.heap.get? d = some o) (hdd : o.data = .dict es ep) (hge : es.size ≤ i)
    (hQ : ∀ h', Heap.ExtBut it s.heap h' → Q none { s with heap := h' }) : wpAny (model prog w) A (pyNext (.ref it)) Q E s := by
  obtain ⟨oi, ho, hc, hd⟩ := id hit
  unfold pyNext
  refine wpAny_bind (wpAny_attempt (wpAny_callSpecial?_slot (name := Str.ofString "__next__") hit.typeIs F.slot_dict_keyiterator_next
    (wpAny_call_entry F.slot_dict_keyiterator_next hit.typeIs F.entry_dict_keyiterator_next ?_ (F.args_dict_keyiterator_next_1 _))))
  refine wpAny_bind (wpAny_pure ?_)
  refine wpAny_bind ?_
  refine wpAny_bind ?_
  first | refine wpAny_bind (wpAny_typeNameOfWhole_keyiter hit.typeIs (wpAny_pure ?_)) | refine wpAny_bind (wpAny_typeNameOf_keyiter hit.typeIs (wpAny_pure ?_))
  refine wpAny_bind (wpAny_fieldsOf ho hd ?_)
  have hown : Builtin.Dict_items.ownsTuple "dict_keyiterator" = false := by decide
  simp only [hown, Bool.false_eq_true, if_false]
  show wpAny _ _ (if (Value.ref d == Value.none) = true then _ else _) _ _ s
  rw [if_neg (show ¬ ((Value.ref d == Value.none) = true) from Bool.false_ne_true)]
  refine wpAny_bind (wpAny_pure ?_)
  refine wpAny_bind (wpAny_dictEntries hod hdd ?_)
  rw [if_neg (by simp)]
  refine wpAny_bind (wpAny_pure ?_)
  refine wpAny_bind (wpAny_dictEpoch hod hdd ?_)
  rw [if_neg (by simp)]
  refine wpAny_pure ?_
  simp only [show ¬ ((i : Int) < 0) from by omega, if_false, Int.toNat_natCast, Array.getElem?_eq_none hge]
  refine wpAny_bind ?_
  first | refine wpAny_bind (wpAny_typeNameOfWhole_keyiter hit.typeIs (wpAny_pure ?_)) | refine wpAny_bind (wpAny_typeNameOf_keyiter hit.typeIs (wpAny_pure ?_))
  show wpAny _ _ (setField (.ref it) 0 .none >>= _) _ _ s
  refine wpAny_bind (wpAny_setField ho hd (by simp) ?_)
  show wpAny _ _ (newExc (.type "StopIteration") [] >>= _) _ _ _
  refine wpAny_bind ?_
  simp only [newExc, newTuple]
  refine wpAny_bind (wpAny_newObj_type ?_ (by size_fits))
  refine wpAny_bind (m := firstArgMember _ _) (wpAny_of_eq (a := Value.none) (by first | rfl | (simp only [firstArgMember]; rfl)) ?_)
  refine wpAny_newObj_type ?_ (by size_fits)
  simp only [raiseNew]
  refine wpAny_bind (wpAny_handled ?_)
  rw [show A.in1.handled = none from hh]
  refine wpAny_bind (wpAny_pure (wpAny_throw ?_))
  refine wpAny_bind (wpAny_isInstance (T := "StopIteration") (b := true) ⟨_, Heap.get?_push_size _ rfl, rfl⟩ isSubtype_stop ?_)
  exact wpAny_pure (hQ _ (((Heap.SameBut.update ..).extBut.push _).push _))
end
end Mine
end
section
open PySem PySem.W PySem.Calls PyProof.Rows
namespace Mine
structure Iter (C : Cx) (A : Around) (xs : List AV) (ok : List Ent → Prop) (it : Addr) (ie : Nat → Ent) : Prop where
  item : ∀ {i : Nat} {y : AV} {l R : List Ent} {f : PH} {s : Shared} {Q : Option Value → Shared → Prop}, xs[i]? = some y → ok l → St C f (l ++ ie i :: R) s →
    (∀ v f' s', Sub f f' → Is f' y v → St C f' (l ++ ie (i + 1) :: R) s' → Q (some v) s') → wpAny C.M A (pyNext (.ref it)) Q NoE s
  fin : ∀ {l R : List Ent} {f : PH} {s : Shared} {Q : Option Value → Shared → Prop}, ok l → St C f (l ++ ie xs.length :: R) s → (∀ s', St C f (l ++ R) s' → Q none s') → wpAny C.M A (pyNext (.ref it)) Q NoE s
  self : ∀ {l R : List Ent} {f : PH} {s : Shared} {Q : Value → Shared → Prop}, St C f (l ++ ie 0 :: R) s → Q (.ref it) s → wpAny C.M A (pyIter (.ref it)) Q NoE s
noncomputable def itE (it : Addr) (o : Obj) : Ent where
  a := it
  P := fun _ o' => o' = o
  mono := fun _ h => h
theorem St.midGet {C : Cx} {f : PH} {l R : List Ent} {e : Ent} {s : Shared} (S : St C f (l ++ e :: R) s) : ∃ o, s.heap.get? e.a = some o ∧ e.P f o := S.get (by simp)
section
variable {C : Cx} {A : Around} {n : Nat}
theorem bytes_get {b : Array UInt8} {i : Nat} {y : AV} (h : (b.toList.map fun c => AV.int (c.toNat : Int))[i]? = some y) : ∃ c, b[i]? = some c ∧ y = .int (c.toNat : Int) := by
  rw [List.getElem?_map] at h
  obtain ⟨c, hc, rfl⟩ := Option.map_eq_some_iff.mp h
  exact ⟨c, by simpa using hc, rfl⟩
inductive SK where
  | list
  | tup
  | range (a b : Int)
  | bytes
  | str
  | dict (kv : List (Int × AV)) (e : Nat)
  | dictT (kv : List (List Int × AV)) (e : Nat)
inductive SrcOf (C : Cx) (l : List Ent) : SK → AV → List AV → Prop
  | list {a : Addr} {xs : List AV} : lst a xs ∈ l → SrcOf C l .list (.ref a) xs
  | tup {xs : List AV} : SrcOf C l .tup (.tup xs) xs
  | range {r : Addr} {a b : Int} : rng r a b ∈ l → -100000 ≤ a → a ≤ 100000 → -100000 ≤ b → b ≤ 100000 → SrcOf C l (.range a b) (.ref r) ((rangeInts a 1 (b - a).toNat).map .int)
  | bytes {b : Array UInt8} : SrcOf C l .bytes (.bytes b) (b.toList.map fun c => .int (c.toNat : Int))
  | str {x : Str} : SrcOf C l .str (.str x) (x.cps.toList.map fun c => .str ⟨#[c]⟩)
  | dict {d : Addr} {kv : List (Int × AV)} {e : Nat} : dicI C d kv (some e) ∈ l → SrcOf C l (.dict kv e) (.ref d) (kv.map fun p => .int p.1)
  | dictT {d : Addr} {kv : List (List Int × AV)} {e : Nat} : dicT C.w d kv (some e) ∈ l → SrcOf C l (.dictT kv e) (.ref d) (kv.map fun p => .tup (p.1.map .int))
theorem it_list (hh : A.handled = none) (it a : Addr) (xs : List AV) : Iter C A xs (fun l => lst a xs ∈ l) it (fun i => ⟨it, fun _ o => o.cls = .type "list_iterator" ∧ o.data = .fields #[.ref a, .int i 0], fun _ h => h⟩) where
  item := fun {i y l R f s Q} hy hm S hQ => by
    obtain ⟨o, ho, hc, hd⟩ := S.midGet
    obtain ⟨ws, k, hl, hi⟩ := S.isL (List.mem_append_left _ hm)
    obtain ⟨v, hv, hiv⟩ := hi.get hy
    refine wpAny_pyNext_list_item ⟨o, ho, hc, hd⟩ hl.isList (by simpa using hv) fun h' hit hs => ?_
    obtain ⟨o', ho', hc', hd'⟩ := hit
    exact hQ v f _ (.refl f) hiv (S.updL Upd1.mid rfl hs ⟨o', ho', hc', hd'⟩ rfl rfl rfl)
  fin := fun {l R f s Q} hm S hQ => by
    obtain ⟨o, ho, hc, hd⟩ := S.midGet
    obtain ⟨ws, k, hl, hi⟩ := S.isL (List.mem_append_left _ hm)
    have e : ws.size = xs.length := by have := hi.length; simpa using this
    exact wpAny_pyNext_list_end hh ⟨o, ho, hc, hd⟩ hl.isList (by simp [e]) fun h' hs => hQ _ (S.gone hs rfl rfl rfl)
  self := fun {l R f s Q} S hQ => by
    obtain ⟨o, ho, hc, hd⟩ := S.midGet
    exact wpAny_pyIter_listiter ⟨o, ho, hc, hd⟩ hQ
theorem it_tup (r : Room A n) (it t : Addr) {xs : List AV} {vs : List Value} {k : Nat} : Iter C A xs (fun _ => True) it
    (fun i => ⟨it, fun f o => o.cls = .type "tuple_iterator" ∧ o.data = .fields #[.ref t, .int i 0] ∧ f t = some { cls := .type "tuple", dict := .none, data := .seq vs.toArray k, slots := #[] } ∧ IsAll f xs vs, fun s h => ⟨h.1, h.2.1, s _ _ h.2.2.1, h.2.2.2.mono s⟩⟩) where
  item := fun {i y l R f s Q} hy _ S hQ => by
    obtain ⟨o, ho, hc, hd, hf, hi⟩ := S.midGet
    obtain ⟨v, hv, hiv⟩ := hi.get hy
    refine wpAny_pyNext_tuple_item ⟨o, ho, hc, hd⟩ ⟨_, S.live _ _ hf, rfl, k, rfl⟩ (by simpa using hv) fun h' hit hs => ?_
    obtain ⟨o', ho', hc', hd'⟩ := hit
    exact hQ v f _ (.refl f) hiv (S.updL Upd1.mid rfl hs ⟨o', ho', hc', hd', hf, hi⟩ rfl rfl rfl)
  fin := fun {l R f s Q} _ S hQ => by
    obtain ⟨o, ho, hc, hd, hf, hi⟩ := S.midGet
    have e : vs.length = xs.length := hi.length
    exact wpAny_pyNext_tuple_end r.handled ⟨o, ho, hc, hd⟩ ⟨_, S.live _ _ hf, rfl, k, rfl⟩ (by simp [e]) fun h' hs => hQ _ (S.gone hs rfl rfl rfl)
  self := fun {l R f s Q} S hQ => by
    obtain ⟨o, ho, hc, hd, _⟩ := S.midGet
    exact wpAny_pyIter_tupleiter ⟨o, ho, hc, hd⟩ hQ
theorem it_range (r : Room A n) (it : Addr) (a : Int) (k : Nat) : Iter C A ((rangeInts a 1 k).map .int) (fun _ => True) it
    (fun i => itE it { cls := .type "range_iterator", dict := none, data := .fields #[rawInt (a + i), rawInt ((k : Int) - i), rawInt 1], slots := #[] }) where
  item := fun {i y l R f s Q} hy _ S hQ => by
    obtain ⟨o, ho, rfl⟩ := S.midGet
    have hik : i < k := by
      have := (List.getElem?_eq_some_iff.mp hy).1
      simpa [rangeInts_length] using this
    rw [List.getElem?_map, rangeInts_get hik] at hy
    cases hy
    refine wpAny_pyNext_range_item ho (by omega) fun h' hit hs => ?_
    refine hQ _ f _ (.refl f) (by rw [show (a + (i : Int) * 1) = a + (i : Int) by omega]; exact .int _ _) ((S.updL (e' := itE it { cls := .type "range_iterator", dict := none, data := .fields #[rawInt (a + ((i + 1 : Nat) : Int)), rawInt ((k : Int) - ((i + 1 : Nat) : Int)), rawInt 1], slots := #[] }) Upd1.mid rfl hs ⟨_, hit, ?_⟩ rfl rfl rfl))
    show _ = _
    rw [show (a + (i : Int) + 1) = a + ((i + 1 : Nat) : Int) by omega, show ((k : Int) - (i : Int) - 1) = (k : Int) - ((i + 1 : Nat) : Int) by omega]
  fin := fun {l R f s Q} _ S hQ => by
    obtain ⟨o, ho, rfl⟩ := S.midGet
    exact wpAny_pyNext_range_end r.handled ho (by simp [rangeInts_length]) fun h' hs => hQ _ (S.gone hs rfl rfl rfl)
  self := fun {l R f s Q} S hQ => by
    obtain ⟨o, ho, rfl⟩ := S.midGet
    exact wpAny_pyIter_rangeiter ho hQ
theorem it_bytes (r : Room A n) (it : Addr) (b : Array UInt8) (t : Tok) : Iter C A (b.toList.map fun c => .int (c.toNat : Int)) (fun _ => True) it
    (fun i => ⟨it, fun _ o => o.cls = .type "bytes_iterator" ∧ o.data = .fields #[.bytes b t, .int i 0], fun _ h => h⟩) where
  item := fun {i y l R f s Q} hy _ S hQ => by
    obtain ⟨o, ho, hc, hd⟩ := S.midGet
    obtain ⟨c, hx, rfl⟩ := bytes_get hy
    refine KBw.next_item ⟨o, ho, hc, hd⟩ hx fun h' hit hs => ?_
    obtain ⟨o', ho', hc', hd'⟩ := hit
    exact hQ _ f _ (.refl f) (.int _ _) (S.updL Upd1.mid rfl hs ⟨o', ho', hc', hd'⟩ rfl rfl rfl)
  fin := fun {l R f s Q} _ S hQ => by
    obtain ⟨o, ho, hc, hd⟩ := S.midGet
    exact KBw.next_end r.handled ⟨o, ho, hc, hd⟩ (by simp) fun h' hs => hQ _ (S.gone hs rfl rfl rfl)
  self := fun {l R f s Q} S hQ => by
    obtain ⟨o, ho, hc, hd⟩ := S.midGet
    exact KBw.pyIter_self ⟨o, ho, hc, hd⟩ hQ
theorem str_get {x : Str} {i : Nat} {y : AV} (h : (x.cps.toList.map fun c => AV.str ⟨#[c]⟩)[i]? = some y) : ∃ c, x.cps[i]? = some c ∧ y = .str ⟨#[c]⟩ := by
  rw [List.getElem?_map] at h
  obtain ⟨c, hc, rfl⟩ := Option.map_eq_some_iff.mp h
  exact ⟨c, by simpa using hc, rfl⟩
theorem it_str (r : Room A n) (it : Addr) (x : Str) (t : Tok) (ty : String) (hty : (ty = "str_ascii_iterator") ∨ (ty = "str_iterator")) : Iter C A (x.cps.toList.map fun c => .str ⟨#[c]⟩) (fun _ => True) it
    (fun i => ⟨it, fun _ o => o.cls = .type ty ∧ o.data = .fields #[.str x t, .int i 0], fun _ h => h⟩) where
  item := fun {i y l R f s Q} hy _ S hQ => by
    obtain ⟨o, ho, hc, hd⟩ := S.midGet
    obtain ⟨c, hx, rfl⟩ := str_get hy
    have k : ∀ h', h'.IsStrIter it ty x t (i + 1) → Heap.SameBut it s.heap h' → Q (some (.str ⟨#[c]⟩ s.toks)) { s with heap := h', toks := s.toks + 1 } := fun h' hit hs => by
      obtain ⟨o', ho', hc', hd'⟩ := hit
      exact hQ _ f _ (.refl f) (.str _ _) (S.updL Upd1.mid rfl hs ⟨o', ho', hc', hd'⟩ rfl rfl rfl)
    rcases hty with rfl | rfl
    · exact wpAny_pyNext_ascii_item ⟨o, ho, hc, hd⟩ hx k
    · exact wpAny_pyNext_wide_item ⟨o, ho, hc, hd⟩ hx k
  fin := fun {l R f s Q} _ S hQ => by
    obtain ⟨o, ho, hc, hd⟩ := S.midGet
    rcases hty with rfl | rfl
    · exact wpAny_pyNext_ascii_end r.handled ⟨o, ho, hc, hd⟩ (by simp) fun h' hs => hQ _ (S.gone hs rfl rfl rfl)
    · exact wpAny_pyNext_wide_end r.handled ⟨o, ho, hc, hd⟩ (by simp) fun h' hs => hQ _ (S.gone hs rfl rfl rfl)
  self := fun {l R f s Q} S hQ => by
    obtain ⟨o, ho, hc, hd⟩ := S.midGet
    rcases hty with rfl | rfl
    · exact wpAny_pyIter_striter_ascii ⟨o, ho, hc, hd⟩ hQ
    · exact wpAny_pyIter_striter_wide ⟨o, ho, hc, hd⟩ hQ
theorem PairsAre.get {K : Type} {f : PH} {kv : List (K × AV)} {kvs : List (K × Value)} {i : Nat} {p : K × AV} (h : PairsAre f kv kvs) (e : kv[i]? = some p) : ∃ v, kvs[i]? = some (p.1, v) ∧ Is f p.2 v := by
  induction h generalizing i with
  | nil => cases e
  | cons h _ ih => cases i with
    | zero => cases e; exact ⟨_, rfl, h⟩
    | succ i => exact ih (i := i) e
theorem isInt {w : World} {k : Int} {v : Value} (h : (intKind prg w).is k v = true) : ∃ t, v = .int k t := by
  cases v <;> simp_all [intKind, Value.isInt]
theorem it_dict (r : Room A n) (it d : Addr) (kv : List (Int × AV)) (e : Nat) : Iter C A (kv.map fun p => .int p.1) (fun l => dicI C d kv (some e) ∈ l) it
    (fun i => ⟨it, fun _ o => o.cls = .type "dict_keyiterator" ∧ o.data = .fields #[.ref d, .int i 0, .int kv.length 0, .int e 0], fun _ h => h⟩) where
  item := fun {i y l R f s Q} hy hm S hQ => by
    obtain ⟨o, ho, hc, hd⟩ := S.midGet
    obtain ⟨od, hod, _, kvs, es, ep, h1, h2, h3, h4, h5, h6, h7⟩ := S.get (List.mem_append_left _ hm)
    obtain rfl := h7 e rfl
    rw [List.getElem?_map] at hy
    obtain ⟨p, hp, rfl⟩ := Option.map_eq_some_iff.mp hy
    obtain ⟨v, hv, _⟩ := h6.get hp
    have hl := h6.length
    refine wpAny_pyNext_dict_item (knd := intKind prg C.w) (kvs := kvs) (ep := ep) ⟨o, ho, hc, by rw [hl]; exact hd⟩ ⟨od, es, hod, h1, h2, h3, h4, h5⟩ hv fun key h' hk hit hs => ?_
    obtain ⟨t, rfl⟩ := isInt hk
    obtain ⟨o', ho', hc', hd'⟩ := hit
    exact hQ _ f _ (.refl f) (.int _ _) (S.updL Upd1.mid rfl hs ⟨o', ho', hc', by rw [hl] at hd'; exact hd'⟩ rfl rfl rfl)
  fin := fun {l R f s Q} hm S hQ => by
    obtain ⟨o, ho, hc, hd⟩ := S.midGet
    obtain ⟨od, hod, _, kvs, es, ep, h1, h2, h3, h4, h5, h6, h7⟩ := S.get (List.mem_append_left _ hm)
    obtain rfl := h7 e rfl
    have hl := h6.length
    refine wpAny_pyNext_dict_end (knd := intKind prg C.w) (kvs := kvs) (ep := ep) r.handled ⟨o, ho, hc, by rw [hl]; exact hd⟩ ⟨od, es, hod, h1, h2, h3, h4, h5⟩ (by simp [hl]) fun h' hs => hQ _ (S.gone hs rfl rfl rfl)
  self := fun {l R f s Q} S hQ => by
    obtain ⟨o, ho, hc, hd⟩ := S.midGet
    exact wpAny_pyIter_keyiter ⟨o, ho, hc, hd⟩ hQ
theorem it_dictT (r : Room A n) (it d : Addr) (kv : List (List Int × AV)) (e : Nat) : Iter C A (kv.map fun p => .tup (p.1.map .int)) (fun l => dicT C.w d kv (some e) ∈ l) it
    (fun i => ⟨it, fun _ o => o.cls = .type "dict_keyiterator" ∧ o.data = .fields #[.ref d, .int i 0, .int kv.length 0, .int e 0], fun _ h => h⟩) where
  item := fun {i y l R f s Q} hy hm S hQ => by
    obtain ⟨o, ho, hc, hd⟩ := S.midGet
    obtain ⟨od, hod, _, xs, es, ep, h1, h2, h3, h4, h5, h6⟩ := S.get (List.mem_append_left _ hm)
    obtain rfl := h6 e rfl
    rw [List.getElem?_map] at hy
    obtain ⟨p, hp, rfl⟩ := Option.map_eq_some_iff.mp hy
    obtain ⟨a, v, hv, hi, _⟩ := h5.get hp
    have hl : es.size = kv.length := by rw [size_of_entries h3, h5.length]
    have hlt : i < es.size := by rw [hl]; exact (List.getElem?_eq_some_iff.mp hp).1
    have he : es[i].key = .ref a := by
      have := entry_at h3 i
      rw [hv, Array.getElem?_eq_getElem hlt] at this
      rw [Option.some.inj this]; rfl
    refine next_raw (es := es) (ep := ep) ⟨o, ho, hc, by rw [hl]; exact hd⟩ hod h2 hlt fun h' hit hs => ?_
    rw [he]
    obtain ⟨o', ho', hc', hd'⟩ := hit
    exact hQ _ f _ (.refl f) hi (S.updL Upd1.mid rfl hs ⟨o', ho', hc', by rw [hl] at hd'; exact hd'⟩ rfl rfl rfl)
  fin := fun {l R f s Q} hm S hQ => by
    obtain ⟨o, ho, hc, hd⟩ := S.midGet
    obtain ⟨od, hod, _, xs, es, ep, h1, h2, h3, h4, h5, h6⟩ := S.get (List.mem_append_left _ hm)
    obtain rfl := h6 e rfl
    have hl : es.size = kv.length := by rw [size_of_entries h3, h5.length]
    refine stop_raw (es := es) (ep := ep) r.handled ⟨o, ho, hc, by rw [hl]; exact hd⟩ hod h2 (by simp [hl]) fun h' hs => hQ _ (S.gone hs rfl rfl rfl)
  self := fun {l R f s Q} S hQ => by
    obtain ⟨o, ho, hc, hd⟩ := S.midGet
    exact wpAny_pyIter_keyiter ⟨o, ho, hc, hd⟩ hQ
theorem Iter.ok {xs : List AV} {o1 o2 : List Ent → Prop} {it : Addr} {ie : Nat → Ent} (I : Iter C A xs o1 it ie) (h : ∀ l, o2 l → o1 l) : Iter C A xs o2 it ie :=
  ⟨fun a b c d => I.item a (h _ b) c d, fun a b c => I.fin (h _ a) b c, fun a b => I.self a b⟩
theorem St.pushMid {f : PH} {l R : List Ent} {s s' : Shared} {e : Ent} {o : Obj} (S : St C f (l ++ R) s) (ha : e.a = s.heap.objs.size) (hp : e.P f o) (hfree : o.isFreed = false)
    (hh : s'.heap = s.heap.push o) (hg : s'.gens = s.gens) (hos : s'.os = s.os) : St C f (l ++ e :: R) s' :=
  St.perm (St.push (l := l) (R := R) S ha hp hfree hh hg hos) List.perm_middle.symm
theorem start_iter {f : PH} {l R : List Ent} {s : Shared} {k : SK} {x : AV} {v : Value} {xs : List AV} {Q : Value → Shared → Prop} (r : Room A n) (src : SrcOf C l k x xs) (S : St C f (l ++ R) s) (hv : Is f x v)
    (hQ : ∀ it ie s', Iter C A xs (fun l => SrcOf C l k x xs) it ie → St C f (l ++ ie 0 :: R) s' → Q (.ref it) s') : wpAny C.M A (pyIter v) Q NoE s := by
  cases src with
  | @list a _ hm =>
    obtain rfl := hv.refE
    obtain ⟨ws, m, hl, hi⟩ := S.isL (List.mem_append_left _ hm)
    exact wpAny_pyIter_list hl.isList (hQ _ _ _ ((it_list r.handled s.heap.objs.size a xs).ok fun l h => by cases h; assumption) (S.pushMid rfl ⟨rfl, rfl⟩ rfl rfl rfl rfl))
  | tup =>
    obtain ⟨a, vs, m, rfl, ho, hi⟩ := hv.tupE
    exact wpAny_pyIter_tuple ⟨_, S.live _ _ ho, rfl, m, rfl⟩ (hQ _ _ _ ((it_tup r s.heap.objs.size a (vs := vs) (k := m)).ok fun _ _ => trivial) (S.pushMid rfl ⟨rfl, rfl, ho, hi⟩ rfl rfl rfl rfl))
  | @range rr a b hm h1 h2 h3 h4 =>
    obtain rfl := hv.refE
    obtain ⟨o, ho, t, u, w, rfl⟩ := S.get (List.mem_append_left _ hm)
    have hs := rangeSize_nat a b
    refine wpAny_pyIter_range (a := a) (b := b) (c := 1) (t := t) (u := u) (v := w) ho ?_ (hQ _ _ _ ((it_range r s.heap.objs.size a (b - a).toNat).ok fun _ _ => trivial) (S.pushMid rfl ?_ rfl rfl rfl rfl))
    · unfold Builtin.Range.small Builtin.Range.rangeFitsLong
      rw [hs]
      simp
      omega
    · show _ = _
      rw [hs]; simp
  | bytes => cases hv; exact KBw.pyIter_bytes (hQ _ _ _ ((it_bytes r s.heap.objs.size _ _).ok fun _ _ => trivial) (S.pushMid rfl ⟨rfl, rfl⟩ rfl rfl rfl rfl))
  | @str x =>
    obtain ⟨t, rfl⟩ := hv.strE
    cases ha : x.cps.all (· < 128) with
    | true => exact wpAny_pyIter_ascii ha (hQ _ _ _ ((it_str r s.heap.objs.size x t "str_ascii_iterator" (.inl rfl)).ok fun _ _ => trivial) (S.pushMid rfl ⟨rfl, rfl⟩ rfl rfl rfl rfl))
    | false => exact wpAny_pyIter_wide ha (hQ _ _ _ ((it_str r s.heap.objs.size x t "str_iterator" (.inr rfl)).ok fun _ _ => trivial) (S.pushMid rfl ⟨rfl, rfl⟩ rfl rfl rfl rfl))
  | @dict d kv e hm =>
    obtain rfl := hv.refE
    obtain ⟨od, hod, hsys, kvs, es, ep, h1, h2, h3, h4, h5, h6, h7⟩ := S.get (List.mem_append_left _ hm)
    obtain rfl := h7 e rfl
    exact wpAny_pyIter_dict (knd := intKind prg C.w) (kvs := kvs) (ep := ep) hsys ⟨od, es, hod, h1, h2, h3, h4, h5⟩ (hQ _ _ _ ((it_dict r s.heap.objs.size d kv ep).ok fun l h => by cases h; assumption) (S.pushMid rfl ⟨rfl, by rw [h6.length]; rfl⟩ rfl rfl rfl rfl))
  | @dictT d kv e hm =>
    obtain rfl := hv.refE
    obtain ⟨od, hod, hsys, xs, es, ep, h1, h2, h3, h4, h5, h6⟩ := S.get (List.mem_append_left _ hm)
    obtain rfl := h6 e rfl
    have hl : es.size = kv.length := by rw [size_of_entries h3, h5.length]
    exact iter_raw hsys hod h1 h2 (hQ _ _ _ ((it_dictT r s.heap.objs.size d kv ep).ok fun l h => by cases h; assumption) (S.pushMid rfl ⟨rfl, by rw [hl]; rfl⟩ rfl rfl rfl rfl))
noncomputable abbrev TurnP (Inv : List Ent → Prop) (Φ : AF → List Ent → Prop) : AF → List Ent → Prop := fun fl l => (fl = .next ∧ Inv l) ∨ (∃ v, fl = .ret v ∧ Φ (.ret v) l)
noncomputable abbrev ForP (C : Cx) (A : Around) (env : Env) (target : Expr) (body rest : List Stmt) (Φ : AF → List Ent → Prop) : AV → List Ent → Prop := fun x l₁ => ∃ k xs, ∃ Inv : Nat → List Ent → Prop, SrcOf C l₁ k x xs ∧ Inv 0 l₁ ∧
      (∀ i y l, xs[i]? = some y → Inv i l → SrcOf C l k x xs ∧ W1 C A isEq l y (fun v => assign target env v) (RestP C A env body (TurnP (Inv (i + 1)) Φ))) ∧
      (∀ l, Inv xs.length l → SrcOf C l k x xs ∧ WF C A l (execs rest env) Φ)
theorem ex_for {l : List Ent} {env : Env} {target iter : Expr} {body rest : List Stmt} {pos : Pos} {Φ : AF → List Ent → Prop} (r : Room A n)
    (h : W C A l (eval iter env) (ForP C A env target body rest Φ))
    (hs : ∀ x, foldedSetIterable iter env x = pure x := by intro _; rfl) (ht : ∀ it v, letOwnedTupleGo target it v = pure () := by intro _ _; rfl) :
    WF C A l (execs (.For target iter body [] pos :: rest) env) Φ := by
  refine ex_cons fun R f s S => wpAny_For (h.run S fun f₁ x l₁ v s₁ a₁ S₁ r₁ k₁ => ?_) hs
  obtain ⟨k, xs, Inv, src, i0, turn, fin⟩ := k₁
  refine start_iter r src S₁ r₁ fun it ie s₂ I S₂ => ?_
  refine codeAny_forLoop (fun m s => ∃ i l' f', i + m = xs.length ∧ Sub f₁ f' ∧ Inv i l' ∧ St C f' (l' ++ ie i :: R) s) ?_ xs.length ⟨0, l₁, f₁, by omega, .refl _, i0, S₂⟩ (ht _)
  rintro m s ⟨i, l', f', him, a₂, inv, S'⟩
  cases hi : xs[i]? with
  | none =>
    have hie : i = xs.length := by have := List.getElem?_eq_none_iff.mp hi; omega
    subst hie
    obtain ⟨src', w⟩ := fin l' inv
    refine wpAny_mono (I.fin src' S' fun s' S'' => wpAny_execs_nil ?_) (fun _ _ q => q) fun _ _ e => e.elim
    exact ⟨f', .next, l', a₁.trans a₂, S'', .next, fun _ => w, fun q => (q rfl).elim⟩
  | some y =>
    obtain ⟨src', w⟩ := turn i y l' hi inv
    refine wpAny_mono (I.item hi src' S' fun v f'' s' b hv S'' => ?_) (fun _ _ q => q) fun _ _ e => e.elim
    refine wpAny_mono (w _ _ _ _ S'' hv) (fun _ s₃ p₃ => ?_) fun _ _ e => e.elim
    obtain ⟨f₃, _, l₃, b₃, S₃, _, w₃⟩ := p₃
    refine wpAny_mono (w₃ _ _ _ S₃) (fun fl s₄ p₄ => ?_) fun _ _ e => e.elim
    obtain ⟨f₄, af, l₄, b₄, S₄, r₄, c⟩ := p₄
    have hlt := (List.getElem?_eq_some_iff.mp hi).1
    rcases c with ⟨rfl, inv'⟩ | ⟨w, rfl, hΦ⟩
    · cases r₄
      exact ⟨m - 1, by omega, i + 1, l₄, f₄, by omega, ((a₂.trans b).trans b₃).trans b₄, inv', S₄⟩
    · cases r₄ with
      | ret hr =>
        refine ⟨f₄, .ret w, l₄, (((a₁.trans a₂).trans b).trans b₃).trans b₄, S₄.sublist ?_, .ret hr, (by simp), fun _ => hΦ⟩
        exact List.Sublist.append (List.Sublist.refl _) (List.sublist_cons_self _ _)
end
end Mine
end
section
open PySem PySem.W PySem.Calls PyProof.Rows
namespace Mine
structure EnvIs (sc : Scope) (cl : List (Str × Addr)) (env : Env) : Prop where
  scope : env.scope = sc
  globals : env.globals = mainGlobals
  builtins : env.builtins = builtinsNs
  cells : env.cells = cl
structure CelTab (env : Env) (cs : List (Str × Addr)) : Prop where
  kind : env.scope.kind = .function
  cel : ∀ p ∈ cs, env.kindOf p.1 = some .cell ∧ env.cells.lookup p.1 = some p.2 ∧ (p.1 == ("__debug__" : Str)) = false
noncomputable def closS : List (Str × NameKind) → List (Str × Addr) → List (Str × Addr) → Option (List (Str × Addr))
  | [], _, acc => some acc
  | (n, k) :: r, cl, acc => if (k == .free) = true then (match cl.lookup n with | some a => closS r cl ((n, a) :: acc) | none => none) else closS r cl acc
theorem closS_run {env : Env} {cl r : List (Str × Addr)} (hc : env.cells = cl) (f : Str × NameKind → List (Str × Addr) → Sem (ForInStep (List (Str × Addr))))
    (hf : ∀ n k acc, f (n, k) acc = if (k == .free) = true then (do let a ← cellOf env n; pure (.yield ((n, a) :: acc))) else pure (.yield acc)) :
    ∀ (names : List (Str × NameKind)) (acc : List (Str × Addr)), closS names cl acc = some r → (forIn names acc f : Sem (List (Str × Addr))) = pure r
  | [], acc, h => by cases h; rfl
  | (n, k) :: xs, acc, h => by
    rw [List.forIn_cons, hf]
    unfold closS at h
    by_cases hk : (k == NameKind.free) = true
    · rw [if_pos hk] at h ⊢
      cases hl : cl.lookup n with
      | none => rw [hl] at h; cases h
      | some a =>
        rw [hl] at h
        have e : cellOf env n = pure a := by unfold cellOf; rw [hc, hl]
        rw [e]
        exact closS_run hc f hf xs _ h
    · rw [if_neg hk] at h ⊢
      exact closS_run hc f hf xs _ h
theorem closureFor_eq {env : Env} {cl r : List (Str × Addr)} {scope : Scope} (hc : env.cells = cl) (h : closS scope.names cl [] = some r) : closureFor scope env = pure r := by
  unfold closureFor
  show (forIn scope.names [] _ >>= fun cs => pure cs) = pure r
  rw [closS_run hc _ (fun n k acc => by cases h : (k == NameKind.free) <;> simp [h]) scope.names [] h]
  rfl
noncomputable def relabelS (scope sc : Scope) : Scope :=
  { scope with names := scope.names.map fun (n, k) => if (k == .free && sc.kind == .function && sc.names.lookup n == some .cell) then (n, .cell) else (n, k) }
theorem compEnv_is {scope sc : Scope} {cl cl' : List (Str × Addr)} {env : Env} {L : Addr} (E : EnvIs sc cl env) : EnvIs (relabelS scope sc) cl' (compEnvC scope cl' L env) := by
  refine ⟨?_, E.globals, E.builtins, rfl⟩
  show relabel scope env = relabelS scope sc
  unfold relabel relabelS Env.kindOf
  rw [E.scope]
section
variable {C : Cx} {A : Around} {n : Nat}
theorem ns_new {f : PH} {R : List Ent} {s : Shared} {h₁ : Heap} {names : List Str} (hnd : names.Nodup) {tk : Nat} {T : String} (S : St C f R s)
    (hns : h₁.Ns s.heap.objs.size fun x => ([] : List (Str × Value)).reverse.lookup x) (hsb : Heap.SameBut s.heap.objs.size (s.heap.push { cls := .type T, data := .dict #[] }) h₁) :
    St C f (ns s.heap.objs.size names (names.map fun _ => none) :: R) { s with heap := h₁, toks := tk } := by
  have hk : ∀ b o, s.heap.get? b = some o → h₁.get? b = some o := fun b o e => hsb.extBut b o (Nat.ne_of_lt (Heap.lt_size e)) (Heap.get?_push_of_some _ e)
  have S1 : St C f R { s with heap := h₁, toks := tk } := S.grow hk rfl rfl
  obtain ⟨o', es, ep, ho', hd', hsk, hm⟩ := hns
  refine ⟨S1.base, S1.live, fun e he => ?_, ?_, S1.gens, S1.os⟩
  · rcases List.mem_cons.mp he with rfl | he
    · refine ⟨?_, o', ho', _, es, ep, hd', hsk, hm, NsIs.nones names, hnd⟩
      show f s.heap.objs.size = none
      cases hq : f s.heap.objs.size with
      | none => rfl
      | some _ => exact absurd (S.flt hq) (Nat.lt_irrefl _)
    · exact S1.cells e he
  · show (s.heap.objs.size :: R.map (·.a)).Nodup
    refine List.nodup_cons.mpr ⟨fun hm => ?_, S.nodup⟩
    obtain ⟨e, he, hq⟩ := List.mem_map.mp hm
    have := S.lt he; rw [hq] at this; exact Nat.lt_irrefl _ this
theorem app1 {γ : Type _} (l : List γ) (a : γ) (r : List γ) : l ++ a :: r = (l ++ [a]) ++ r := by rw [List.append_assoc]; rfl
theorem app2 {γ : Type _} (l : List γ) (a b : γ) (r : List γ) : l ++ a :: b :: r = (l ++ [a, b]) ++ r := by rw [List.append_assoc]; rfl
theorem St.cast {f : PH} {L L' : List Ent} {s : Shared} (S : St C f L s) (e : L = L') : St C f L' s := e ▸ S
theorem ns_forget {f : PH} {L R : List Ent} {s : Shared} {a : Addr} {names : List Str} {vals : List (Option AV)} (S : St C f (L ++ ns a names vals :: R) s) : St C f (L ++ ns a names (names.map fun _ => none) :: R) s := by
  have h := S.midGet
  refine S.updL (h' := s.heap) Upd1.mid rfl (Heap.SameBut.refl ..) ?_ rfl rfl rfl
  obtain ⟨o, ho, m, es, ep, h1, h2, h3, _, h5⟩ := h
  exact ⟨o, ho, m, es, ep, h1, h2, h3, NsIs.nones names, h5⟩
theorem app_raw {f : PH} {L R : List Ent} {s : Shared} {D : Addr} {ys : List AV} {z : AV} {u : Value} {Q : Value → Shared → Prop} (S : St C f (L ++ lst D ys :: R) s) (hu : Is f z u) (hz : ys.length ≤ 100000)
    (h : ∀ s', St C f (L ++ lst D (ys ++ [z]) :: R) s' → Q .none s') : wpAny C.M A (call (.builtin "list.append") [.ref D, u]) Q NoE s := by
  obtain ⟨ws, n, hl, hi⟩ := S.isL (a := D) (xs := ys) (by simp)
  have hsz : ws.size ≤ sizeLine := by rw [sizeLine_eq]; have := hi.length; simp at this; omega
  refine call_meets F.slot_list_append ⟨_, hl, rfl⟩ F.entry_list_append (F.args_list_append_2 _ _) (list_append D ws n u hsz) ⟨hl, ?_⟩
  refine h _ (S.updL Upd1.mid rfl (Heap.SameBut.update ..) ⟨_, IsL.update hl _, _, _, rfl, ?_⟩ rfl rfl rfl)
  simpa using hi.append (.cons hu .nil)
theorem perm_a {a b c : Ent} {l R : List Ent} : (l ++ a :: b :: c :: R).Perm ((b :: l) ++ (a :: c :: R)) := by
  have h1 : (l ++ a :: b :: c :: R).Perm (l ++ b :: a :: c :: R) := List.Perm.append_left l (List.Perm.swap b a _)
  exact h1.trans List.perm_middle
theorem perm_b {a b c : Ent} {l R : List Ent} : ((b :: l) ++ (a :: c :: R)).Perm (l ++ a :: b :: c :: R) := perm_a.symm
theorem comp_loop {elt target iter : Expr} {scope : Scope} {pos : Pos} {cenv : Env} {D it : Addr} {ie : Nat → Ent} {k : SK} {x : AV} {xs : List AV} {names : List Str} {Inv : Nat → List AV → List Ent → Prop} {R l : List Ent} {f : PH} {s : Shared} {Rr : Result → Shared → Prop}
    (I : Iter C A xs (fun l => SrcOf C l k x xs) it ie) (hz : xs.length ≤ 100000)
    (turn : ∀ i y ys l, xs[i]? = some y → Inv i ys l → SrcOf C l k x xs ∧ W1 C A isEq (ns cenv.locals names (names.map fun _ => none) :: l) y (fun v => assign target cenv v) fun _ l₂ => W C A l₂ (eval elt cenv) fun z l₃ =>
      ∃ vals l₄, Gives l₃ (ns cenv.locals names vals :: l₄) ∧ Inv (i + 1) (ys ++ [z]) l₄)
    (fin : ∀ ys l, Inv xs.length ys l → ys.length = xs.length → SrcOf C l k x xs)
    (S : St C f (l ++ ie 0 :: ns cenv.locals names (names.map fun _ => none) :: lst D [] :: R) s) (i0 : Inv 0 [] l)
    (hk : ∀ ys l' f' s', Sub f f' → Inv xs.length ys l' → ys.length = xs.length → St C f' (l' ++ ns cenv.locals names (names.map fun _ => none) :: lst D ys :: R) s' → Rr (.ok .next) s')
    (ht : ∀ it v, letOwnedTupleGo target it v = pure () := by intro _ _; rfl) :
    codeAny C.M A (.compLoop (.ListComp elt [⟨target, iter, [], 0⟩] scope pos) 0 (.ref it) (.ref D) cenv) Rr s := by
  refine codeAny_compLoop_list (fun m s => ∃ i ys l' f', i + m = xs.length ∧ ys.length = i ∧ Sub f f' ∧ Inv i ys l' ∧ St C f' (l' ++ ie i :: ns cenv.locals names (names.map fun _ => none) :: lst D ys :: R) s) ?_ xs.length ⟨0, [], l, f, by omega, rfl, .refl _, i0, S⟩ (ht _)
  rintro m s ⟨i, ys, l', f', him, hys, a₂, inv, S'⟩
  cases hi : xs[i]? with
  | none =>
    have hie : i = xs.length := by have := List.getElem?_eq_none_iff.mp hi; omega
    subst hie
    exact wpAny_mono (I.fin (fin _ _ inv (by omega)) S' fun s' S'' => hk ys l' f' s' a₂ inv (by omega) S'') (fun _ _ q => q) fun _ _ e => e.elim
  | some y =>
    obtain ⟨src', w⟩ := turn i y ys l' hi inv
    have hlt := (List.getElem?_eq_some_iff.mp hi).1
    refine wpAny_mono (I.item hi src' S' fun v f'' s' b hv S'' => ?_) (fun _ _ q => q) fun _ _ e => e.elim
    refine wpAny_mono (w _ _ _ _ (S''.perm perm_a) hv) (fun _ s₃ p₃ => ?_) fun _ _ e => e.elim
    obtain ⟨f₃, _, l₃, b₃, S₃, _, w₃⟩ := p₃
    refine wpAny_mono (w₃ _ _ _ S₃) (fun u s₄ p₄ => ?_) fun _ _ e => e.elim
    obtain ⟨f₄, z, l₄, b₄, S₄, r₄, vals, l₅, gv, inv'⟩ := p₄
    have S₅ := gv.st S₄
    have S₆ : St C f₄ (l₅ ++ ie (i + 1) :: ns cenv.locals names vals :: lst D ys :: R) s₄ := S₅.perm perm_b
    have S₇ : St C f₄ ((l₅ ++ [ie (i + 1)]) ++ ns cenv.locals names vals :: (lst D ys :: R)) s₄ := S₆.cast (app1 ..)
    have S₈ := ns_forget S₇
    have S₉ : St C f₄ ((l₅ ++ [ie (i + 1), ns cenv.locals names (names.map fun _ => none)]) ++ lst D ys :: R) s₄ := S₈.cast ((app1 ..).symm.trans (app2 ..))
    refine wpAny_mono (app_raw S₉ r₄ (by omega) fun s₅ S₁₀ => ?_) (fun _ _ q => q) fun _ _ e => e.elim
    refine ⟨m - 1, by omega, i + 1, ys ++ [z], l₅, f₄, by omega, by simp [hys], ((a₂.trans b).trans b₃).trans b₄, inv', S₁₀.cast (app2 ..).symm⟩
noncomputable abbrev EltP (cenv : Env) (names : List Str) (Inv : List AV → List Ent → Prop) (ys : List AV) : AV → List Ent → Prop := fun z l₃ => ∃ vals l₄, Gives l₃ (ns cenv.locals names vals :: l₄) ∧ Inv (ys ++ [z]) l₄
noncomputable abbrev EvalP (C : Cx) (A : Around) (env : Env) (e : Expr) (Φ : AV → List Ent → Prop) : Unit → List Ent → Prop := fun _ l => W C A l (eval e env) Φ
noncomputable abbrev CompP (C : Cx) (A : Around) (sc : Scope) (cl' : List (Str × Addr)) (scope : Scope) (names : List Str) (target elt : Expr) (Φ : AV → List Ent → Prop) : AV → List Ent → Prop := fun x l₁ => ∃ k xs, ∃ Inv : Nat → List AV → List Ent → Prop, SrcOf C l₁ k x xs ∧ xs.length ≤ 100000 ∧ Inv 0 [] l₁ ∧
      (∀ cenv, EnvIs (relabelS scope sc) cl' cenv → ∀ i y ys l, xs[i]? = some y → Inv i ys l → SrcOf C l k x xs ∧ W1 C A isEq (ns cenv.locals names (names.map fun _ => none) :: l) y (fun v => assign target cenv v) (EvalP C A cenv elt (EltP cenv names (Inv (i + 1)) ys))) ∧
      (∀ ys l, Inv xs.length ys l → ys.length = xs.length → SrcOf C l k x xs ∧ ∀ a, Φ (.ref a) (lst a ys :: l))
theorem ev_comp1 {sc : Scope} {cl cl' : List (Str × Addr)} {env : Env} {l : List Ent} {elt target iter : Expr} {scope : Scope} {pos : Pos} {names : List Str} {Φ : AV → List Ent → Prop} (r : Room A n) (E : EnvIs sc cl env)
    (hclos : closS scope.names cl [] = some cl') (hcell : ∀ y ∈ scope.names, y.2 ≠ .cell) (hkind : scope.kind = .function) (hnames : ∀ y ∈ scope.names, y.2 = .local → scope.names.lookup y.1 = some .local) (hnd : names.Nodup)
    (h : W C A l (eval iter env) (CompP C A sc cl' scope names target elt Φ))
    (hs : ∀ x, foldedSetIterable iter env x = pure x := by intro _; rfl) (ht : ∀ it v, letOwnedTupleGo target it v = pure () := by intro _ _; rfl) :
    W C A l (eval (.ListComp elt [⟨target, iter, [], 0⟩] scope pos) env) Φ := fun R f s S => by
  rw [eval_ListComp]
  refine wpAny_comprehension_free (use := none) rfl hs (closureFor_eq E.cells hclos) hkind hnames ?_
  refine h.run S fun f₁ x l₁ v s₁ a₁ S₁ r₁ k₁ => ?_
  obtain ⟨k, xs, Inv, src, hz, i0, turn, fin⟩ := k₁
  refine start_iter r src S₁ r₁ fun it ie s₂ I S₂ => ?_
  refine wpAny_newObj_type ?_ (by size_fits)
  have S₃ : St C f₁ ((lst s₂.heap.objs.size [] :: (l₁ ++ ie 0 :: R)) ++ []) { s₂ with heap := s₂.heap.push { cls := .type "list", data := .seq ([] : List Value).toArray } } :=
    St.push (R := []) (by rw [List.append_nil]; exact S₂) rfl ⟨#[], 0, rfl, .nil⟩ rfl rfl rfl rfl
  rw [List.append_nil] at S₃
  refine wpAny_newFunctionEnv hcell (by intro y hy; simp at hy) (fun h₁ hns hsb => ?_) hkind
  dsimp only at hns hsb
  have S₄ := ns_new (tk := s₂.toks + ([] : List (Str × Value)).length) hnd S₃ hns hsb
  have S₅ : St C f₁ (l₁ ++ ie 0 :: ns (s₂.heap.push { cls := .type "list", data := .seq ([] : List Value).toArray }).objs.size names (names.map fun _ => none) :: lst s₂.heap.objs.size [] :: R) _ :=
    S₄.perm (by
      refine List.Perm.trans ?_ (List.perm_middle.symm)
      refine List.Perm.trans ?_ (List.Perm.cons _ (List.perm_middle.symm))
      refine List.Perm.trans ?_ (List.Perm.cons _ (List.Perm.cons _ List.perm_middle.symm))
      exact List.Perm.trans (List.Perm.cons _ (List.Perm.cons _ List.perm_middle)) (List.Perm.trans (List.Perm.cons _ (List.Perm.swap _ _ _)) (List.Perm.swap _ _ _)))
  have Ec := compEnv_is (scope := scope) (cl' := cl') (L := (s₂.heap.push { cls := .type "list", data := .seq ([] : List Value).toArray }).objs.size) E
  have loop := comp_loop (elt := elt) (target := target) (iter := iter) (scope := scope) (pos := pos) (Rr := compPost C.M A NoE none (Post C Is f R Φ) (.ref s₂.heap.objs.size) (s₂.heap.push { cls := .type "list", data := .seq ([] : List Value).toArray }).objs.size)
    I hz (turn _ Ec) (fun ys l inv hl => (fin ys l inv hl).1) S₅ i0 (fun ys l' f' s' a₂ inv hl S' => by
      obtain ⟨o, ho, m, es, ep, h1, h2, h3, _⟩ := S'.midGet
      refine ⟨m, ⟨o, es, ep, ho, h1, h2, h3⟩, fun h' hs => ?_⟩
      have S'' : St C f' (l' ++ lst s₂.heap.objs.size ys :: R) { s' with heap := h' } := S'.gone (e := ns _ names _) hs.extBut rfl rfl rfl
      exact ⟨f', .ref _, lst _ ys :: l', a₁.trans a₂, S''.perm List.perm_middle, .ref _, (fin ys l' inv hl).2 _⟩) ht
  exact codeAny_compStart_list loop (wpAny_mono (I.self (Q := fun it' s' => codeAny C.M A (.compLoop (.ListComp elt [⟨target, iter, [], 0⟩] scope pos) 0 it' _ _) _ s') S₅ loop) (fun _ _ q => q) fun _ _ e => e.elim)
theorem ex_assign_comp {sc : Scope} {cl cl' : List (Str × Addr)} {env : Env} {l : List Ent} {elt target iter : Expr} {scope : Scope} {pos py spos : Pos} {names : List Str} {x : Str} {rest : List Stmt} {Φ : AF → List Ent → Prop} (r : Room A n) (E : EnvIs sc cl env)
    (hclos : closS scope.names cl [] = some cl') (hcell : ∀ y ∈ scope.names, y.2 ≠ .cell) (hkind : scope.kind = .function) (hnames : ∀ y ∈ scope.names, y.2 = .local → scope.names.lookup y.1 = some .local) (hnd : names.Nodup)
    (h : W C A l (eval iter env) (CompP C A sc cl' scope names target elt (StoreP C A env x rest Φ)))
    (hsw : swapsWith (.ListComp elt [⟨target, iter, [], 0⟩] scope pos) (some (.Name x py)) spos.line env = pure true)
    (hs : ∀ x, foldedSetIterable iter env x = pure x := by intro _; rfl) (ht : ∀ it v, letOwnedTupleGo target it v = pure () := by intro _ _; rfl) :
    WF C A l (execs (.Assign [.Name x py] (.ListComp elt [⟨target, iter, [], 0⟩] scope pos) spos :: rest) env) Φ := by
  refine ex_seq fun R f s S => ?_
  rw [exec_Assign_Name_used _ _ _ _ hsw]
  refine wpAny_bind (wpAny_standAt (wpAny_bind ?_))
  show wpAny C.M A (do let _ ← comprehension (.ListComp elt [⟨target, iter, [], 0⟩] scope pos) scope env _ (newList []) false (eval iter env) (some (assign (.Name x py) env))) _ _ s
  refine wpAny_bind (wpAny_mono (wpAny_comprehension_free (use := some (assign (.Name x py) env)) (Q := fun _ s' => Post C IsF f R (fun fl l₁ => fl = .next ∧ WF C A l₁ (execs rest env) Φ) .next s') rfl hs (closureFor_eq E.cells hclos) hkind hnames ?_)
    (fun _ s' hq => wpAny_pure (wpAny_pure hq)) fun _ _ e => e)
  refine h.run S fun f₁ y l₁ v s₁ a₁ S₁ r₁ k₁ => ?_
  obtain ⟨k, xs, Inv, src, hz, i0, turn, fin⟩ := k₁
  refine start_iter r src S₁ r₁ fun it ie s₂ I S₂ => ?_
  refine wpAny_newObj_type ?_ (by size_fits)
  have S₃ : St C f₁ ((lst s₂.heap.objs.size [] :: (l₁ ++ ie 0 :: R)) ++ []) { s₂ with heap := s₂.heap.push { cls := .type "list", data := .seq ([] : List Value).toArray } } :=
    St.push (R := []) (by rw [List.append_nil]; exact S₂) rfl ⟨#[], 0, rfl, .nil⟩ rfl rfl rfl rfl
  rw [List.append_nil] at S₃
  refine wpAny_newFunctionEnv hcell (by intro y hy; simp at hy) (fun h₁ hns hsb => ?_) hkind
  dsimp only at hns hsb
  have S₄ := ns_new (tk := s₂.toks + ([] : List (Str × Value)).length) hnd S₃ hns hsb
  have S₅ : St C f₁ (l₁ ++ ie 0 :: ns (s₂.heap.push { cls := .type "list", data := .seq ([] : List Value).toArray }).objs.size names (names.map fun _ => none) :: lst s₂.heap.objs.size [] :: R) _ :=
    S₄.perm (by
      refine List.Perm.trans ?_ (List.perm_middle.symm)
      refine List.Perm.trans ?_ (List.Perm.cons _ (List.perm_middle.symm))
      refine List.Perm.trans ?_ (List.Perm.cons _ (List.Perm.cons _ List.perm_middle.symm))
      exact List.Perm.trans (List.Perm.cons _ (List.Perm.cons _ List.perm_middle)) (List.Perm.trans (List.Perm.cons _ (List.Perm.swap _ _ _)) (List.Perm.swap _ _ _)))
  have Ec := compEnv_is (scope := scope) (cl' := cl') (L := (s₂.heap.push { cls := .type "list", data := .seq ([] : List Value).toArray }).objs.size) E
  have loop := comp_loop (elt := elt) (target := target) (iter := iter) (scope := scope) (pos := pos)
    (Rr := compPost C.M A NoE (some (assign (.Name x py) env)) (fun _ s' => Post C IsF f R (fun fl l₁ => fl = .next ∧ WF C A l₁ (execs rest env) Φ) .next s') (.ref s₂.heap.objs.size) (s₂.heap.push { cls := .type "list", data := .seq ([] : List Value).toArray }).objs.size)
    I hz (turn _ Ec) (fun ys l inv hl => (fin ys l inv hl).1) S₅ i0 (fun ys l' f' s' a₂ inv hl S' => by
      have S'' : St C f' ((lst s₂.heap.objs.size ys :: l') ++ (ns (s₂.heap.push { cls := .type "list", data := .seq ([] : List Value).toArray }).objs.size names (names.map fun _ => none) :: R)) s' :=
        S'.perm (by
          refine List.Perm.trans (List.Perm.append_left _ (List.Perm.swap _ _ _)) ?_
          exact List.perm_middle)
      show wpAny C.M A (assign (.Name x py) env (.ref s₂.heap.objs.size)) _ _ s'
      refine wpAny_assign_Name (wpAny_mono ((fin ys l' inv hl).2 s₂.heap.objs.size _ _ _ _ S'' (.ref _)) (fun _ s₃ p₃ => ?_) fun _ _ e => e.elim)
      obtain ⟨f₃, _, l₃, b₃, S₃', _, w₃⟩ := p₃
      obtain ⟨o, ho, m, es, ep, h1, h2, h3, _⟩ := S₃'.midGet
      refine ⟨m, ⟨o, es, ep, ho, h1, h2, h3⟩, fun h' hs => ?_⟩
      have S₄' : St C f₃ (l₃ ++ R) { s₃ with heap := h' } := S₃'.gone (e := ns _ names _) hs.extBut rfl rfl rfl
      exact ⟨f₃, .next, l₃, (a₁.trans a₂).trans b₃, S₄', .next, rfl, w₃⟩) ht
  exact codeAny_compStart_list loop (wpAny_mono (I.self (Q := fun it' s' => codeAny C.M A (.compLoop (.ListComp elt [⟨target, iter, [], 0⟩] scope pos) 0 it' _ _) _ s') S₅ loop) (fun _ _ q => q) fun _ _ e => e.elim)
end
end Mine
end
section
open PySem PySem.W PySem.Calls PyProof.Rows
namespace Mine
noncomputable def checkNames (sc : Scope) (k : NameKind) (xs : List Str) : Bool := xs.all fun x => (match sc.names.lookup x with | some j => decide (j = k) | none => false) && !(x == ("__debug__" : Str))
theorem checkNames_at {sc : Scope} {k : NameKind} {xs : List Str} (h : checkNames sc k xs = true) : ∀ x ∈ xs, sc.names.lookup x = some k ∧ (x == ("__debug__" : Str)) = false := fun x hx => by
  have := List.all_eq_true.mp h x hx
  rw [Bool.and_eq_true] at this
  obtain ⟨h1, h2⟩ := this
  refine ⟨?_, by simpa using h2⟩
  split at h1
  · rename_i e; rw [e, of_decide_eq_true h1]
  · cases h1
section
variable {sc : Scope} {cl : List (Str × Addr)} {env : Env} {names : List Str}
theorem EnvIs.loc (E : EnvIs sc cl env) (hk : sc.kind = .function) (h : checkNames sc .local names = true) : LocTab env names :=
  ⟨by rw [E.scope]; exact hk, fun x hx => by unfold Env.kindOf; rw [E.scope]; exact checkNames_at h x hx⟩
theorem EnvIs.glob (E : EnvIs sc cl env) (hk : sc.kind = .function) (h : checkNames sc .globalImplicit names = true) : GlobTab env names :=
  ⟨by rw [E.scope]; exact hk, E.globals, E.builtins, fun x hx => by unfold Env.kindOf; rw [E.scope]; exact checkNames_at h x hx⟩
theorem EnvIs.cel (E : EnvIs sc cl env) (hk : sc.kind = .function) (h : checkNames sc .cell (cl.map (·.1)) = true) (hnd : (cl.map (·.1)).Nodup) : CelTab env cl :=
  ⟨by rw [E.scope]; exact hk, fun p hp => by
    have := checkNames_at h p.1 (List.mem_map.mpr ⟨p, hp, rfl⟩)
    refine ⟨by unfold Env.kindOf; rw [E.scope]; exact this.1, ?_, this.2⟩
    rw [E.cells]; exact lookup_of_mem_nodup hnd (by cases p; exact hp)⟩
end
theorem gvK {C : Cx} {x : Str} {v : Value} {y : AV} (e : nsIn (Kf C) mainGlobals x = some (some v)) (h : ∀ f, Sub C.h0.get? f → Is f y v) : GV C x y := .inl ⟨v, mg_of C.kin C.g e, h⟩
theorem gvB {C : Cx} {x : Str} {v : Value} {y : AV} (e : nsIn (Kf C) mainGlobals x = some none) (hn : x ≠ "__name__") (hv : bootBuiltins x = some v) (h : ∀ f, Is f y v) : GV C x y := .inr ⟨mg_none_of C.kin C.g e, hn, v, hv, h⟩
section
variable {C : Cx} {A : Around} {l l' : List Ent} {env : Env}
theorem ld_cel {cs : List (Str × Addr)} {x : Str} {c : Addr} {v : AV} {Φ : AV → List Ent → Prop} (hT : CelTab env cs) (hx : (x, c) ∈ cs) (hm : cel c (some v) ∈ l) (h : Φ v l) : W C A l (loadName env x) Φ := fun R f s S => by
  obtain ⟨o, ho, w, hd, hw⟩ := S.get (List.mem_append_left R hm)
  obtain ⟨u, rfl, hi⟩ := hw v rfl
  obtain ⟨h1, h2, _⟩ := hT.cel _ hx
  exact wpAny_loadName_cell hT.kind h1 h2 ⟨o, ho, hd⟩ (post (.refl f) S hi h)
theorem ev_cel {cs : List (Str × Addr)} {x : Str} {c : Addr} {v : AV} {pos : Pos} {Φ : AV → List Ent → Prop} (hT : CelTab env cs) (hx : (x, c) ∈ cs) (hm : cel c (some v) ∈ l) (h : Φ v l) : W C A l (eval (.Name x pos) env) Φ :=
  fun R f s S => wpAny_Name (ld_cel hT hx hm h R f s S) (hT.cel _ hx).2.2
theorem st_cel {cs : List (Str × Addr)} {x : Str} {c : Addr} {v : AV} {o : Option AV} {Φ : Unit → List Ent → Prop} (hT : CelTab env cs) (hx : (x, c) ∈ cs) (U : Upd1 (cel c o) (cel c (some v)) l l') (h : Φ () l') :
    W1 C A isEq l v (storeName env x) Φ := fun R f s u S hi => by
  obtain ⟨ob, ho, w, hd, hw⟩ := S.get (List.mem_append_left R U.mem)
  obtain ⟨h1, h2, _⟩ := hT.cel _ hx
  refine wpAny_storeName_cell hT.kind h1 h2 ⟨ob, ho, hd⟩ fun h' hv hs => ?_
  obtain ⟨ob', ho', hd'⟩ := hv
  exact post (.refl f) (S.upd U rfl hs ⟨ob', ho', _, hd', fun y e => by cases e; exact ⟨u, rfl, hi⟩⟩ rfl rfl rfl) rfl h
theorem call_plain {a : Addr} {fd : FuncData} {body : List Stmt} {params rest : List Str} {xs : List AV} {n : Nat} {Φ : AV → List Ent → Prop} (F : FnOf C a fd body) (hr : Room A (n + 1))
    (hbind : ∀ (s : Shared) (vs : List Value), (∀ b o, C.h0.get? b = some o → s.heap.get? b = some o) → vs.length = xs.length → BindsTo s fd ⟨vs, []⟩ (params.zip vs))
    (hcell : fd.scope.names.all (fun x => decide (x.2 ≠ .cell)) = true) (hloc : checkNames fd.scope .local params = true) (hlen : params.length = xs.length) (hnd : (params ++ rest).Nodup)
    {names : List Str} {vals : List (Option AV)} (hns : params ++ rest = names) (hvals : (xs.map some ++ rest.map fun _ => none) = vals)
    (h : ∀ env, EnvIs fd.scope [] env → Room (A.deeper env) n → WF C (A.deeper env) (ns env.locals names vals :: l) (execs body env) (RetG Φ)) :
    Wn C A Is l xs (fun vs => call (.ref a) vs) Φ :=
  call_def F hr hbind (fun x hx => of_decide_eq_true (List.all_eq_true.mp hcell x hx)) (fun p hp => (checkNames_at hloc p hp).1) hlen hnd hns hvals fun env E hc r => h env ⟨E.scope, E.globals, E.builtins, hc⟩ r
inductive Fill (params : List Str) (xs : List AV) : List Str → List (Option AV) → Prop
  | nil : Fill params xs [] []
  | none {n : Str} {ns : List Str} {vs : List (Option AV)} : Fill params xs ns vs → Fill params xs (n :: ns) (.none :: vs)
  | some {n : Str} {x : AV} {ns : List Str} {vs : List (Option AV)} : LookN params (xs.map Option.some) n x → Fill params xs ns vs → Fill params xs (n :: ns) (.some x :: vs)
noncomputable def cels : List (Str × Addr) → List (Option AV) → List Ent
  | p :: cs, v :: vs => cel p.2 v :: cels cs vs
  | _, _ => []
theorem look_zip {f : PH} {params : List Str} {xs : List AV} {vs : List Value} {n : Str} {x : AV} (h : LookN params (xs.map Option.some) n x) (hv : IsAll f xs vs) : ∃ u, (n, u) ∈ params.zip vs ∧ Is f x u := by
  generalize hq : xs.map Option.some = ys at h
  induction h generalizing xs vs with
  | head =>
    cases hv with
    | nil => cases hq
    | cons a t => simp only [List.map_cons, List.cons.injEq, Option.some.injEq] at hq; obtain ⟨rfl, _⟩ := hq; exact ⟨_, by simp, a⟩
  | tail _ ih =>
    cases hv with
    | nil => cases hq
    | cons a t =>
      simp only [List.map_cons, List.cons.injEq] at hq
      obtain ⟨u, hu, hi⟩ := ih t hq.2
      exact ⟨u, by simp [hu], hi⟩
theorem bindL_other {k : Str → Option NameKind} {n : Str} : ∀ {b : List (Str × Value)} {m : Str → Option Value}, n ∉ b.map (·.1) → bindL k b m n = m n
  | [], _, _ => rfl
  | (p, v) :: r, m, h => by
    simp only [List.map_cons, List.mem_cons, not_or] at h
    show bindL k r _ n = m n
    rw [bindL_other h.2]
    split
    · exact if_neg h.1
    · rfl
theorem bindL_at {k : Str → Option NameKind} {n : Str} {v : Value} (hk : k n = some .local) : ∀ {b : List (Str × Value)} {m : Str → Option Value}, (b.map (·.1)).Nodup → (n, v) ∈ b → bindL k b m n = some v
  | (p, u) :: r, m, hn, h => by
    rw [List.map_cons, List.nodup_cons] at hn
    show bindL k r _ n = some v
    rcases List.mem_cons.mp h with e | h
    · cases e
      rw [bindL_other hn.1, if_pos hk]
      exact if_pos rfl
    · exact bindL_at hk hn.2 h
theorem bindC_other {k : Str → Option NameKind} {n : Str} : ∀ {b : List (Str × Value)} {m : Str → Option Value}, n ∉ b.map (·.1) → bindC k b m n = m n
  | [], _, _ => rfl
  | (p, v) :: r, m, h => by
    simp only [List.map_cons, List.mem_cons, not_or] at h
    show bindC k r _ n = m n
    rw [bindC_other h.2]
    split
    · rfl
    · exact if_neg h.1
theorem bindC_at {k : Str → Option NameKind} {n : Str} {v : Value} (hk : k n ≠ some .local) : ∀ {b : List (Str × Value)} {m : Str → Option Value}, (b.map (·.1)).Nodup → (n, v) ∈ b → bindC k b m n = some v
  | (p, u) :: r, m, hn, h => by
    rw [List.map_cons, List.nodup_cons] at hn
    show bindC k r _ n = some v
    rcases List.mem_cons.mp h with e | h
    · cases e
      rw [bindC_other hn.1, if_neg hk]
      exact if_pos rfl
    · exact bindC_at hk hn.2 h
theorem zip_nodup {params : List Str} (vs : List Value) (h : params.Nodup) : ((params.zip vs).map (·.1)).Nodup := by
  have : ∀ (a : List Str) (b : List Value), ((a.zip b).map (·.1)).Sublist a := by
    intro a
    induction a with
    | nil => intro b; simp
    | cons x a ih => intro b; cases b with
      | nil => simp
      | cons y b => simp only [List.zip_cons_cons, List.map_cons]; exact (ih b).cons_cons _
  exact h.sublist (this _ _)
theorem fill_ns {f : PH} {params : List Str} {xs : List AV} {vs : List Value} {m : Str → Option Value} {names : List Str} {vals : List (Option AV)} (F : Fill params xs names vals) (hv : IsAll f xs vs)
    (hm : ∀ n ∈ names, ∀ u, (n, u) ∈ params.zip vs → m n = some u) : NsIs f names vals m := by
  induction F with
  | nil => trivial
  | none _ ih => exact ⟨fun _ e => (nomatch e), ih fun n hn => hm n (.tail _ hn)⟩
  | some h _ ih =>
    refine ⟨fun y e => ?_, ih fun n hn => hm n (.tail _ hn)⟩
    cases e
    obtain ⟨u, hu, hi⟩ := look_zip h hv
    exact ⟨u, hm _ (.head _) u hu, hi⟩
theorem fill_cels {f : PH} {params : List Str} {xs : List AV} {vs : List Value} {m : Str → Option Value} {h : Heap} (hv : IsAll f xs vs) {cs : List (Str × Addr)} {vals : List (Option AV)} (F : Fill params xs (cs.map (·.1)) vals)
    (hm : ∀ n ∈ cs.map (·.1), ∀ u, (n, u) ∈ params.zip vs → m n = some u) (hc : ∀ p ∈ cs, h.IsCell p.2 (m p.1) ∧ f p.2 = none) : ∀ e ∈ cels cs vals, e.holds f h := by
  induction cs generalizing vals with
  | nil => intro e he; cases he
  | cons p cs ih =>
    intro e he
    have F' : Fill params xs (p.1 :: cs.map (·.1)) vals := F
    have ih := fun vals F => ih (vals := vals) F (fun n hn => hm n (.tail _ hn)) (fun q hq => hc q (.tail _ hq)) e
    obtain ⟨⟨o, ho, hd⟩, hf⟩ := hc p (.head _)
    cases F' with
    | none G =>
      rcases List.mem_cons.mp he with rfl | he
      · exact ⟨hf, o, ho, _, hd, fun _ e => (nomatch e)⟩
      · exact ih _ G he
    | some l G =>
      rcases List.mem_cons.mp he with rfl | he
      · obtain ⟨u, hu, hi⟩ := look_zip l hv
        refine ⟨hf, o, ho, _, hd, fun y e => ?_⟩
        cases e
        exact ⟨u, hm _ (.head _) u hu, hi⟩
      · exact ih _ G he
theorem cels_addr : ∀ {cs : List (Str × Addr)} {vals : List (Option AV)}, ((cels cs vals).map (·.a)).Sublist (cs.map (·.2))
  | [], _ => by simp [cels]
  | _ :: _, [] => by simp [cels]
  | p :: cs, v :: vs => by simp only [cels, List.map_cons]; exact cels_addr.cons_cons _
theorem call_cels {a : Addr} {fd : FuncData} {body : List Stmt} {params names cn : List Str} {vals cvals : List (Option AV)} {xs : List AV} {n : Nat} {Φ : AV → List Ent → Prop} (F : FnOf C a fd body) (hr : Room A (n + 1))
    (hbind : ∀ (vs : List Value), vs.length = xs.length → bindArgs fd ⟨vs, []⟩ = pure (params.zip vs))
    (hloc : checkNames fd.scope .local names = true) (hcel : checkNames fd.scope .cell cn = true) (hcn : (cellsFrom 0 fd.scope.names []).map (·.1) = cn) (hpar : ∀ p ∈ params, p ∈ names ∨ p ∈ cn)
    (hpd : params.Nodup) (hnd : names.Nodup) (hcd : cn.Nodup) (fL : Fill params xs names vals) (fC : Fill params xs cn cvals)
    (h : ∀ env cl, cl.map (·.1) = cn → EnvIs fd.scope cl env → Room (A.deeper env) n → WF C (A.deeper env) (ns env.locals names vals :: (cels cl cvals ++ l)) (execs body env) (RetG Φ)) :
    Wn C A Is l xs (fun vs => call (.ref a) vs) Φ := fun R f s vs S hvs => by
  obtain ⟨o, ho, hdata⟩ := F.ho
  have hk := S.base.trans S.live
  have hl : vs.length = xs.length := hvs.length
  have hcn' : (cellsFrom (s.heap.objs.size + 1) fd.scope.names []).map (·.1) = cn := (cellsFrom_names _ _ _ _ _ (Eq.refl _)).trans hcn
  refine wpAny_call (codeAny_call_cells hr.lim (hk _ _ ho) hdata (C.nolimit.keeps hk) (F.hcd.keeps hk) F.hbody (hbind vs hl) F.hclo (fun x hx => ?_) (fun s₁ X => ?_) F.hco F.hgen F.hk)
  · have hp : x.1 ∈ params := (List.of_mem_zip (a := x.1) (b := x.2) hx).1
    rcases hpar _ hp with h1 | h1
    · exact .inl (checkNames_at hloc _ h1).1
    · refine .inr ⟨(checkNames_at hcel _ h1).1, ?_⟩
      rw [← hcn'] at h1
      obtain ⟨q, hq, e⟩ := List.mem_map.mp h1
      rw [lookup_of_mem_nodup (n := x.1) (c := q.2) (by rw [hcn']; exact hcd) (by rw [← e]; cases q; exact hq)]; rfl
  · obtain ⟨h₁, tk, rfl, hkeep⟩ := X.done
    generalize hE : callEnvC fd s.heap.objs.size a = env at X
    have hloc' : env.locals = s.heap.objs.size := by rw [← hE]; rfl
    have hcells : env.cells = cellsFrom (s.heap.objs.size + 1) fd.scope.names [] := by rw [← hE]; rfl
    have e1 : EnvIs fd.scope env.cells env := by rw [← hE]; exact ⟨rfl, F.hg, F.hb, rfl⟩
    have hmap : env.cells.map (·.1) = cn := by rw [hcells]; exact hcn'
    have W := h env env.cells hmap e1 (hr.deeper _)
    have hkl : ∀ n ∈ names, env.kindOf n = some .local := fun n hn => by unfold Env.kindOf; rw [e1.scope]; exact (checkNames_at hloc n hn).1
    have hkc : ∀ n ∈ cn, env.kindOf n ≠ some .local := fun n hn => by unfold Env.kindOf; rw [e1.scope, (checkNames_at hcel n hn).1]; simp
    have fresh : ∀ {a : Addr}, s.heap.objs.size ≤ a → f a = none := fun {a} ha => by
      cases hq : f a with
      | none => rfl
      | some _ => exact absurd (Nat.lt_of_lt_of_le (S.flt hq) ha) (Nat.lt_irrefl _)
    have S1 : St C f (l ++ R) { s with heap := h₁, toks := tk } := S.grow hkeep rfl rfl
    have SL : St C f (ns env.locals names vals :: (cels env.cells cvals ++ l) ++ R) { s with heap := h₁, toks := tk } := by
      refine ⟨S1.base, S1.live, fun e he => ?_, ?_, S1.gens, S1.os⟩
      · have he' : e = ns env.locals names vals ∨ e ∈ cels env.cells cvals ∨ e ∈ l ++ R := by simpa [or_assoc] using he
        rcases he' with rfl | he | he
        · obtain ⟨o', es, ep, ho', hd', hsk, hm⟩ := X.toInCall.ns
          exact ⟨fresh (by rw [show (ns env.locals names vals).a = env.locals from rfl, hloc']; exact Nat.le_refl _), o', ho', _, es, ep, hd', hsk, hm,
            fill_ns fL hvs fun n hn u hu => bindL_at (hkl n hn) (zip_nodup _ hpd) hu, hnd⟩
        · refine fill_cels (m := bindC env.kindOf (params.zip vs) fun _ => none) hvs (by rw [hmap]; exact fC) (fun n hn u hu => bindC_at (hkc n (hmap ▸ hn)) (zip_nodup _ hpd) hu) (fun p hp => ⟨X.cell p.1 p.2 ?_, ?_⟩) e he
          · exact lookup_of_mem_nodup (by rw [hmap]; exact hcd) (by cases p; exact hp)
          · have := X.above p.1 p.2 (by cases p; exact hp)
            rw [hloc'] at this
            exact fresh (Nat.le_of_lt this)
        · exact S1.cells e he
      · show (env.locals :: ((cels env.cells cvals ++ l) ++ R).map (·.a)).Nodup
        have big : ∀ x ∈ (cels env.cells cvals).map (·.a), env.locals < x := fun x hx => by
          obtain ⟨p, hp, rfl⟩ := List.mem_map.mp (cels_addr.subset hx)
          exact X.above p.1 p.2 (by cases p; exact hp)
        have small : ∀ x ∈ (l ++ R).map (·.a), x < s.heap.objs.size := fun x hx => by
          obtain ⟨e, he, rfl⟩ := List.mem_map.mp hx
          exact S.lt he
        rw [List.append_assoc, List.map_append]
        refine List.nodup_cons.mpr ⟨fun hm => ?_, List.nodup_append.mpr ⟨?_, S.nodup, fun x hx y hy e => ?_⟩⟩
        · rcases List.mem_append.mp hm with h | h
          · exact Nat.lt_irrefl _ (big _ h)
          · exact Nat.lt_irrefl _ (hloc' ▸ small _ h)
        · refine List.Nodup.sublist cels_addr ?_
          rw [List.Nodup, List.pairwise_map]
          exact X.apart
        · have h1 := big x hx
          have h2 := small y hy
          rw [hloc'] at h1
          rw [e] at h1
          exact Nat.lt_irrefl _ (Nat.lt_trans h1 h2)
    refine wpAny_mono (W R f _ SL) (fun fl s' hp => ?_) fun _ _ e => e.elim
    obtain ⟨f', af, l', a1, S2, r2, x, l'', rt, gv, k⟩ := hp
    exact ⟨f', x, l'', a1, gv.st S2, PySem_mono r2 rt (.refl f'), k⟩
theorem cl1 {cl : List (Str × Addr)} {a : Str} (h : cl.map (·.1) = [a]) : ∃ x, cl = [(a, x)] := by
  obtain ⟨p, t, e, rfl, k⟩ := List.map_eq_cons_iff.mp h
  rw [e, List.map_eq_nil_iff.mp k]
  exact ⟨p.2, rfl⟩
theorem cl3 {cl : List (Str × Addr)} {a b c : Str} (h : cl.map (·.1) = [a, b, c]) : ∃ x y z, cl = [(a, x), (b, y), (c, z)] := by
  obtain ⟨p, t, e, rfl, k⟩ := List.map_eq_cons_iff.mp h
  obtain ⟨q, u, e2, rfl, k2⟩ := List.map_eq_cons_iff.mp k
  obtain ⟨z, e3⟩ := cl1 k2
  rw [e, e2, e3]
  exact ⟨p.2, q.2, z, rfl⟩
end
end Mine
end
section
open PySem PySem.W PySem.Calls PyProof.Rows
namespace Mine
section
variable {α β : Type} {C : Cx} {A : Around} {n : Nat} {l l' : List Ent} {env : Env}
theorem o2_str {x y : Str} {Φ : AV → List Ent → Prop} (hz : x.length + y.length ≤ 100000) (h : Φ (.str (x ++ y)) l) : W2 C A Is l (.str x) (.str y) (binaryOp .Add) Φ := fun R f s _ _ S r r' => by
  obtain ⟨_, rfl⟩ := r.strE
  obtain ⟨_, rfl⟩ := r'.strE
  exact add_str (fun t' tk => post (.refl f) (S.toks _) (.str _ _) h) (by rw [sizeLine_eq]; omega)
theorem c2_str_eq {x y : Str} {Φ : AV → List Ent → Prop} (h : Φ (.bool (decide (x = y))) l) : W2 C A Is l (.str x) (.str y) (compareOp .Eq) Φ := fun R f s _ _ S r r' => by
  obtain ⟨_, rfl⟩ := r.strE
  obtain ⟨_, rfl⟩ := r'.strE
  refine eq_str (post (.refl f) S (.bool _) ?_)
  rw [show (x == y) = decide (x = y) by by_cases q : x = y <;> simp [q]]; exact h
theorem c2_in_str {x : Str} {c : Nat} {Φ : AV → List Ent → Prop} (h : Φ (.bool (decide (c ∈ x.cps.toList))) l) : W2 C A Is l (.str ⟨#[c]⟩) (.str x) (compareOp .In) Φ := fun R f s _ _ S r r' => by
  obtain ⟨_, rfl⟩ := r.strE
  obtain ⟨_, rfl⟩ := r'.strE
  refine PyProof.Rows.in_str (post (.refl f) S (.bool _) ?_)
  rw [StrLaws.found_one]; exact h
theorem b_len_str {x : Str} {Φ : AV → List Ent → Prop} (hz : x.length ≤ 100000) (h : Φ (.int x.length) l) : Wn C A Is l [.str x] (fun vs => call (.builtin "len") vs) Φ := fun R f s vs S hv => by
  obtain ⟨_, rfl, h1⟩ := hv.one
  obtain ⟨t, rfl⟩ := h1.strE
  exact PyProof.Rows.len_str (by omega) (post (.refl f) (S.toks _) (.int _ _) h)
theorem b_range1 {n : Int} {Φ : AV → List Ent → Prop} (h : ∀ r, Φ (.ref r) (rng r 0 n :: l)) : Wn C A Is l [.int n] (fun vs => call (.type "range") vs) Φ := fun R f s vs S hv => by
  obtain ⟨_, rfl, h1⟩ := hv.one
  obtain ⟨t, rfl⟩ := h1.intE
  exact call_range_1 (post (.refl f) ((S.push (e := rng s.heap.objs.size 0 n) rfl ⟨_, _, _, rfl⟩ rfl rfl rfl rfl : St C f ((rng s.heap.objs.size 0 n :: l) ++ R) { s with heap := s.heap.push { cls := .type "range", data := .fields #[.int 0 s.toks, .int n t, .int 1 (s.toks + 1)] } }).toks _) (.ref _) (h _))
theorem b_range2 {a b : Int} {Φ : AV → List Ent → Prop} (h : ∀ r, Φ (.ref r) (rng r a b :: l)) : Wn C A Is l [.int a, .int b] (fun vs => call (.type "range") vs) Φ := fun R f s vs S hv => by
  obtain ⟨_, _, rfl, h1, h2⟩ := hv.two
  obtain ⟨t, rfl⟩ := h1.intE
  obtain ⟨u, rfl⟩ := h2.intE
  exact call_range_2 (post (.refl f) ((S.push (e := rng s.heap.objs.size a b) rfl ⟨_, _, _, rfl⟩ rfl rfl rfl rfl : St C f ((rng s.heap.objs.size a b :: l) ++ R) { s with heap := s.heap.push { cls := .type "range", data := .fields #[.int a t, .int b u, .int 1 s.toks] } }).toks _) (.ref _) (h _))
theorem o2_shr {a k : Int} {Φ : AV → List Ent → Prop} (hk : 0 ≤ k) (h : Φ (.int (a / 2 ^ k.toNat)) l) : W2 C A Is l (.int a) (.int k) (binaryOp .RShift) Φ := fun R f s _ _ S r r' => by
  cases r; cases r'
  refine rshift_int hk (post (.refl f) (S.toks _) (.int _ _) ?_)
  rw [Int.fdiv_eq_ediv_of_nonneg _ (Int.pow_nonneg (by decide))]; exact h
theorem o2_and1 {a : Int} {Φ : AV → List Ent → Prop} (ha : 0 ≤ a) (h : Φ (.int (a % 2)) l) : W2 C A Is l (.int a) (.int 1) (binaryOp .BitAnd) Φ := fun R f s _ _ S r r' => by
  cases r; cases r'
  refine and_int (post (.refl f) (S.toks _) (.int _ _) ?_)
  have : Builtin.bitAnd a 1 = a % 2 := by
    obtain ⟨k, rfl⟩ := Int.eq_ofNat_of_zero_le ha
    show ((k &&& 1 : Nat) : Int) = _
    rw [Nat.and_one_is_mod]; rfl
  rw [this]; exact h
theorem o2_pow {a k : Int} {Φ : AV → List Ent → Prop} (hk : 0 ≤ k) (hk' : k ≤ 1000000) (ha : a.natAbs < 2 ^ 64) (h : Φ (.int (a ^ k.toNat)) l) : W2 C A Is l (.int a) (.int k) (binaryOp .Pow) Φ := fun R f s _ _ S r r' => by
  cases r; cases r'
  exact pow_int_small hk hk' ha (post (.refl f) (S.toks _) (.int _ _) h)
theorem o2_list {a b : Addr} {xs ys : List AV} {Φ : AV → List Ent → Prop} (h1 : lst a xs ∈ l) (h2 : lst b ys ∈ l) (hz : xs.length + ys.length ≤ 100000) (h : ∀ c, Φ (.ref c) (lst c (xs ++ ys) :: l)) :
    W2 C A Is l (.ref a) (.ref b) (binaryOp .Add) Φ := fun R f s _ _ S r r' => by
  obtain rfl := r.refE
  obtain rfl := r'.refE
  obtain ⟨ws, m, hl, hi⟩ := S.isL (List.mem_append_left R h1)
  obtain ⟨us, k, hk, hj⟩ := S.isL (List.mem_append_left R h2)
  have e1 : ws.size = xs.length := by have := hi.length; simpa using this
  have e2 : us.size = ys.length := by have := hj.length; simpa using this
  exact P.add_list hl hk (post (.refl f) (S.push (e := lst _ (xs ++ ys)) rfl ⟨_, _, rfl, by simpa using hi.append hj⟩ rfl rfl rfl rfl) (.ref _) (h _)) (by rw [sizeLine_eq]; omega)
theorem foldl_rep {γ : Type} (x : γ) : ∀ (k : Nat) (acc : Array γ), List.foldl (fun x1 x2 => x1 ++ x2) acc (List.replicate k #[x]) = acc ++ (List.replicate k x).toArray
  | 0, acc => by simp
  | k + 1, acc => by
    rw [List.replicate_succ, List.foldl_cons, foldl_rep x k]
    apply Array.toList_inj.mp
    simp [List.replicate_succ]
theorem isAll_rep {f : PH} {x : AV} {v : Value} (h : Is f x v) : ∀ k, IsAll f (List.replicate k x) (List.replicate k v)
  | 0 => .nil
  | k + 1 => .cons h (isAll_rep h k)
theorem one_fits (v : Value) {k : Int} (hk : k ≤ 10000) : Builtin.List.listTooLong ((#[v] : Array Value).size * k.toNat) = false := by
  have e : (#[v] : Array Value).size = 1 := rfl
  rw [e]
  unfold Builtin.List.listTooLong
  rw [sizeLine_eq]
  exact decide_eq_false (by omega)
theorem o2_rep {a : Addr} {x : AV} {k : Int} {Φ : AV → List Ent → Prop} (h1 : lst a [x] ∈ l) (h0 : 0 ≤ k) (hk : k ≤ 10000) (h : ∀ c, Φ (.ref c) (lst c (List.replicate k.toNat x) :: l)) :
    W2 C A Is l (.ref a) (.int k) (binaryOp .Mult) Φ := fun R f s _ _ S r r' => by
  obtain rfl := r.refE
  obtain ⟨u, rfl⟩ := r'.intE
  obtain ⟨ws, m, hl, hi⟩ := S.isL (List.mem_append_left R h1)
  obtain ⟨v, e, hv⟩ := hi.one
  have ew : ws = #[v] := by cases ws; simpa using e
  subst ew
  exact wpAny_binaryOp_repeat_ref (T := "list") (U := "int") (by decide) ⟨_, hl, rfl⟩ (fun s' => typeIs_int s' k u) noFill_list_mul F.fills_int_mul F.slot_int_rmul repeat_list F.slot_int_index.lookup
    (call_meets F.slot_int_rmul (typeIs_int s k u) F.entry_int_rmul (F.args_int_rmul_2 _ _) (int___rmul___int_list k u a #[v] m)
      ⟨hl, rfl, ⟨_, hl, rfl⟩, call_meets F.slot_list_mul ⟨_, hl, rfl⟩ F.entry_list_mul (F.args_list_mul_2 _ _)
        (AutoListH.list___mul___list_int_3 a #[v] m k u (by simp [Builtin.List.listFitsIndex]; omega) (by rw [show (#[v] : Array Value).size = 1 from rfl]; omega) (by rw [one_fits v hk]; decide))
        ⟨hl, post (.refl f) (S.push (e := lst _ (List.replicate k.toNat x)) rfl ⟨_, _, rfl, by rw [show (#[v] : Array Value).isEmpty = false from rfl, if_neg (by decide), foldl_rep]; simpa using isAll_rep hv k.toNat⟩ rfl rfl rfl rfl) (.ref _) (h _)⟩⟩)
theorem seqIndex_pos {q n j : Nat} (h : seqIndex? (Int.ofNat q) n = some j) : j = q := by
  unfold seqIndex? at h
  have h0 : ¬ (Int.ofNat q < 0) := by simp
  simp only [if_neg h0] at h
  by_cases hc : (decide (0 ≤ Int.ofNat q) && decide (Int.ofNat q < (n : Int))) = true
  · rw [if_pos hc] at h; simpa using h.symm
  · rw [if_neg hc] at h; cases h
theorem setItem_at {s : Shared} {a : Addr} {items : Array Value} {m : Nat} {k : Int} {t : Tok} {v : Value} {j : Nat} {E : Value → Shared → Prop} {Q : Unit → Shared → Prop} (hl : IsL s.heap a items m) (hb : -100000 ≤ k ∧ k ≤ 100000)
    (hj : seqIndex? k items.size = some j) (hlt : j < items.size) (h : Q () { s with heap := s.heap.update a (Obj.mapSeq (·.setIfInBounds j v)) }) : wpAny C.M A (setItem (.ref a) (.int k t) v) Q E s := by
  have hT := Heap.IsList.typeIs hl.isList
  unfold setItem
  try with_reducible refine wpAny_holding ?_
  first | refine wpAny_bind (wpAny_pure ?_) | skip
  refine wpAny_bind (wpAny_sequenceKey hT (by decide) ?_)
  refine wpAny_bind (wpAny_callSpecial?_slot (name := Str.ofString "__setitem__") hT F.slot_list_setitem (call_meets F.slot_list_setitem hT F.entry_list_setitem (F.args_list_setitem_3 _ _ _) (S := fun _ R s' => s' = s ∧ R (.ok (.ret .none)) { s with heap := s.heap.update a (Obj.mapSeq (·.setIfInBounds j v)) }) ?_ ⟨rfl, ?_⟩))
  · intro prog w A' R s' hs
    obtain ⟨rfl, hR⟩ := hs
    show wpAny _ _ (Builtin.List.listSubscript? (.int k t) >>= _) _ _ s'
    refine wpAny_bind (wpAny_listSubscript_int ?_ ?_)
    · by_cases h0 : 0 ≤ k
      · exact fitsIndex_of h0 (by omega)
      · exact fitsIndex_neg (by omega) (by omega)
    · have hx : items[j]? = some items[j] := Array.getElem?_eq_getElem hlt
      cases k with
      | ofNat q =>
        have ej : j = q := seqIndex_pos hj
        subst ej
        show wpAny _ _ ((seqItemAt a j >>= fun r => pure (r.map (j, ·))) >>= _) _ _ s'
        refine wpAny_bind (wpAny_bind (wpAny_seqItemAt hl rfl (wpAny_pure ?_)))
        rw [hx]
        exact wpAny_bind (wpAny_setSeqItemAt hl rfl (wpAny_pure hR))
      | negSucc q =>
        show wpAny _ _ ((Builtin.List.listItems (.ref a) >>= fun xs => pure ((seqIndex? (Int.negSucc q) xs.size).bind fun i => xs[i]?.map (i, ·))) >>= _) _ _ s'
        refine wpAny_bind (wpAny_bind ?_)
        show wpAny _ _ (seqItems? (.ref a) >>= _) _ _ s'
        refine wpAny_bind (wpAny_seqItems hl rfl (wpAny_pure (wpAny_pure ?_)))
        rw [hj]
        simp only [Option.bind_some, hx, Option.map_some]
        exact wpAny_bind (wpAny_setSeqItemAt hl rfl (wpAny_pure hR))
  · first
      | exact wpAny_pure h
      | exact wpAny_bind (wpAny_pure (wpAny_pure h))
      | exact wpAny_bind (wpAny_pure h)
end
end Mine
end
section
open PySem PySem.W PySem.Calls PyProof.Rows
namespace Mine
section
variable {α β : Type} {C : Cx} {A : Around} {n : Nat} {l l' : List Ent} {env : Env}
theorem St.addAt {f : PH} {R : List Ent} {e : Ent} {s s' : Shared} (S : St C f (l ++ R) s) (ha : s.heap.objs.size ≤ e.a) (ho : ∃ o, s'.heap.get? e.a = some o ∧ e.P f o)
    (hk : ∀ b o, s.heap.get? b = some o → s'.heap.get? b = some o) (hg : s'.gens = s.gens) (hos : s'.os = s.os) : St C f ((e :: l) ++ R) s' := by
  have S1 : St C f (l ++ R) s' := S.grow hk hg hos
  refine ⟨S1.base, S1.live, fun x hx => ?_, ?_, S1.gens, S1.os⟩
  · rcases List.mem_cons.mp hx with rfl | hx
    · refine ⟨?_, ho⟩
      cases hq : f x.a with
      | none => rfl
      | some _ => exact absurd (Nat.lt_of_lt_of_le (S.flt hq) ha) (Nat.lt_irrefl _)
    · exact S1.cells x hx
  · show (e.a :: (l ++ R).map (·.a)).Nodup
    refine List.nodup_cons.mpr ⟨fun h => ?_, S.nodup⟩
    obtain ⟨x, hx, hxa⟩ := List.mem_map.mp h
    have := S.lt hx
    rw [hxa] at this
    exact Nat.lt_irrefl _ (Nat.lt_of_lt_of_le this ha)
noncomputable def EvPart (C : Cx) (A : Around) (l : List Ent) (env : Env) (e : Option Expr) (Φ : Option Nat → List Ent → Prop) : Prop :=
  match e with
  | none => Φ none l
  | some e => W C A l (eval e env) fun v l' => ∃ k : Nat, v = .int k ∧ Φ (some k) l'
theorem part_no {Φ : Option Nat → List Ent → Prop} (h : Φ none l) : EvPart C A l env none Φ := h
theorem part_yes {e : Expr} {Φ : Option Nat → List Ent → Prop} (h : W C A l (eval e env) fun v l' => ∃ k : Nat, v = .int k ∧ Φ (some k) l') : EvPart C A l env (some e) Φ := h
noncomputable abbrev nI : Nat → Int := fun k => (k : Int)
inductive PartIs : Value → Option Nat → Prop
  | none : PartIs .none none
  | some (k : Nat) (t : Tok) : PartIs (.int k t) (some k)
theorem PartIs.isPart {v : Value} {k : Option Nat} (h : PartIs v k) : IsPart v (k.map nI) := by
  cases h with
  | none => exact .none
  | some k t => exact .int _ _
theorem PartIs.val {v : Value} {k : Option Nat} (h : PartIs v k) : ∃ p : Option (Int × Tok), v = partValue p ∧ p.map (·.1) = k.map nI := by
  cases h with
  | none => exact ⟨.none, rfl, rfl⟩
  | some k t => exact ⟨.some ((k : Int), t), rfl, rfl⟩
theorem part_run {e : Option Expr} {Φ : Option Nat → List Ent → Prop} {R : List Ent} {f : PH} {s : Shared} {Q : Value → Shared → Prop} (h : EvPart C A l env e Φ) (S : St C f (l ++ R) s)
    (k : ∀ f' x l' v s', Sub f f' → St C f' (l' ++ R) s' → PartIs v x → Φ x l' → Q v s') : wpAny C.M A (evalPart e env) Q NoE s := by
  cases e with
  | none => exact wpAny_pure (k f _ l _ s (.refl f) S .none h)
  | some e =>
    rw [evalPart_some]
    refine Wr.run h S fun f' x l' v s' a S' r hx => ?_
    obtain ⟨j, rfl, hΦ⟩ := hx
    obtain ⟨t, rfl⟩ := r.intE
    exact k f' _ l' _ s' a S' (.some j t) hΦ
noncomputable def lpick {γ : Type} (xs : List γ) (lo hi : Option Nat) : List γ := (xs.take (hi.getD xs.length)).drop (lo.getD 0)
inductive SliceTo (l : List Ent) (Φ : AV → List Ent → Prop) : AV → Option Nat → Option Nat → Prop
  | list {a : Addr} {xs : List AV} {lo hi : Option Nat} : lst a xs ∈ l → xs.length ≤ 100000 → (∀ b, Φ (.ref b) (lst b (lpick xs lo hi) :: l)) → SliceTo l Φ (.ref a) lo hi
  | str {x : Str} {a b : Nat} : a ≤ b → b ≤ x.length → x.length ≤ 100000 → Φ (.str ⟨((x.cps.toList.take b).drop a).toArray⟩) l → SliceTo l Φ (.str x) (some a) (some b)
theorem pick_eq (items : Array Value) (lo hi : Option Nat) : slicePick items (lo.map nI) (hi.map nI) none = (lpick items.toList lo hi).toArray := by
  rw [slicePick_plain]
  congr 1
  have e1 : ∀ o : Option Nat, (o.map nI).elim 0 (clipAt items.size) = min (o.getD 0) items.size := fun o => by cases o <;> simp [nI, clipAt_nat]
  have e2 : ∀ o : Option Nat, (o.map nI).elim items.size (clipAt items.size) = min (o.getD items.toList.length) items.size := fun o => by cases o <;> simp [nI, clipAt_nat]
  rw [e1, e2]
  unfold lpick
  generalize lo.getD 0 = a
  generalize hi.getD items.toList.length = b
  have hs : items.size = items.toList.length := by simp
  rw [hs]
  generalize items.toList = xs
  apply List.ext_getElem?
  intro i
  simp only [List.getElem?_take, List.getElem?_drop]
  by_cases h1 : a + i < xs.length
  · have h2 : min a xs.length = a := by omega
    rw [h2]
    by_cases h3 : a + i < b
    · rw [if_pos (by omega), if_pos h3]
    · rw [if_neg (by omega), if_neg h3]
  · rw [List.getElem?_eq_none (by omega : xs.length ≤ min a xs.length + i), List.getElem?_eq_none (by omega : xs.length ≤ a + i)]
    simp
theorem spick_eq {x : Str} {a b : Nat} (hab : a ≤ b) (hb : b ≤ x.length) : ((List.range (b - a)).map fun k => a + k).filterMap (x.cps[·]?) = (x.cps.toList.take b).drop a := by
  apply List.ext_getElem?
  intro i
  have hl : x.cps.toList.length = x.length := by simp [Str.length]
  have key : ∀ (n a : Nat), a + n ≤ x.length → ((List.range n).map fun k => a + k).filterMap (x.cps[·]?) = (x.cps.toList.take (a + n)).drop a := by
    intro n
    induction n with
    | zero => intro a h; simp
    | succ n ih =>
      intro a h
      rw [List.range_succ, List.map_append, List.filterMap_append, ih a (by omega)]
      have hx : x.cps[a + n]? = some x.cps.toList[a + n] := by
        rw [← Array.getElem?_toList]; exact List.getElem?_eq_getElem (by omega)
      simp only [List.map_cons, List.map_nil, List.filterMap_cons, hx, List.filterMap_nil]
      rw [show a + (n + 1) = (a + n) + 1 by omega, List.take_add_one, List.drop_append_of_le_length (by rw [List.length_take]; omega), List.getElem?_eq_getElem (by omega : a + n < x.cps.toList.length)]
      rfl
  rw [key (b - a) a (by omega), show a + (b - a) = b by omega]
theorem ev_slice {value : Expr} {lower upper : Option Expr} {p pos : Pos} {Φ : AV → List Ent → Prop}
    (h : W C A l (eval value env) fun x l₁ => EvPart C A l₁ env lower fun lo l₂ => EvPart C A l₂ env upper fun hi l₃ => SliceTo l₃ Φ x lo hi) :
    W C A l (eval (.Subscript value (.Slice lower upper none p) pos) env) Φ := fun R f s S => by
  refine Subscript_ (h.run S fun f₁ x l₁ v s₁ a₁ S₁ r₁ k₁ => ?_)
  refine wpAny_Slice (part_run k₁ S₁ fun f₂ lo l₂ vl s₂ a₂ S₂ r₂ k₂ => part_run k₂ S₂ fun f₃ hi l₃ vh s₃ a₃ S₃ r₃ k₃ => ?_)
  rw [evalPart_none]
  refine wpAny_pure ?_
  have hsl : (s₃.heap.push { cls := .type "slice", data := .fields #[vl, vh, .none] }).IsSliceOf s₃.heap.objs.size vl vh .none := Heap.IsSliceOf.new _ _ _ _
  have S₄ : St C f₃ (l₃ ++ R) { s₃ with heap := s₃.heap.push { cls := .type "slice", data := .fields #[vl, vh, .none] } } := S₃.grow (fun b o e => Heap.get?_push_of_some _ e) rfl rfl
  have r₁' := r₁.mono (a₂.trans a₃)
  cases k₃ with
  | @list a xs lo hi hm hz hΦ =>
    obtain rfl := r₁'.refE
    obtain ⟨ws, m, hl, hi'⟩ := S₄.isL (List.mem_append_left R hm)
    have e : ws.size = xs.length := by have := hi'.length; simpa using this
    refine sub_tail (Heap.IsList.typeIs hl.isList) F.slot_list_getitem.lookup ?_
    refine wpAny_getItem_list_slice hl.isList hsl r₂.isPart r₃.isPart .none (by simp) ?_ (by rw [sizeLine_eq]; omega)
    refine post ((a₁.trans a₂).trans a₃) (S₄.push (e := lst _ (lpick xs lo hi)) rfl ⟨_, _, rfl, ?_⟩ rfl rfl rfl rfl) (.ref _) (hΦ _)
    rw [pick_eq]
    unfold lpick
    rw [show ws.toList.length = xs.length by simpa using e]
    exact (hi'.take _).drop _
  | @str x a b hab hb hz hΦ =>
    obtain ⟨t, rfl⟩ := r₁'.strE
    obtain ⟨pl, rfl, el⟩ := r₂.val
    obtain ⟨ph, rfl, eh⟩ := r₃.val
    have hsl' : (s₃.heap.push { cls := .type "slice", data := .fields #[partValue pl, partValue ph, .none] }).IsSlice s₃.heap.objs.size pl ph none := hsl
    refine sub_tail (typeIs_str _ x t) F.slot_str_getitem.lookup ?_
    refine wpAny_getItem_str_slice hsl' rfl ?_
    have hp : slicePicked x pl ph none = (List.range (b - a)).map fun k => a + k := by
      show Builtin.Str.strSliceIndices (pl.map (·.1)) (ph.map (·.1)) 1 x.length = _
      rw [el, eh]
      exact StrLaws.strSliceIndices_plain hab hb
    unfold sliceMade
    rw [hp]
    by_cases hc : ((((none : Option (Int × Tok)).map (·.1)).getD 1 == 1) && (((List.range (b - a)).map fun k => a + k).length == x.length)) = true
    · rw [if_pos hc]
      simp only [List.length_map, List.length_range, Bool.and_eq_true, beq_iff_eq] at hc
      have ha : a = 0 := by omega
      have hbb : b = x.length := by omega
      subst ha hbb
      have ex : (⟨((x.cps.toList.take x.length).drop 0).toArray⟩ : Str) = x := by
        rw [List.drop_zero, List.take_of_length_le (by simp [Str.length])]
      rw [ex] at hΦ
      exact post ((a₁.trans a₂).trans a₃) S₄ (.str _ _) hΦ
    · rw [if_neg hc, spick_eq hab hb]
      refine ⟨?_, post ((a₁.trans a₂).trans a₃) (S₄.toks _) (Is.str _ _) hΦ⟩
      rw [sizeLine_eq]
      have : (List.drop a (List.take b x.cps.toList)).length ≤ x.length := by rw [List.length_drop, List.length_take]; omega
      show (List.drop a (List.take b x.cps.toList)).toArray.size ≤ _
      rw [List.size_toArray]
      omega
theorem isAll_strs {f : PH} {ys : List Str} {vs : List Value} (h : IsAll f (ys.map AV.str) vs) : StrsAre vs ys := by
  induction ys generalizing vs with
  | nil => rw [h.nilE]; exact .nil
  | cons y ys ih => obtain ⟨v, r, rfl, a, t⟩ := h.consE; cases a; exact .cons _ _ (ih t)
theorem isAll_of_strs {f : PH} (ys : List Str) (tk : Nat) : IsAll f (ys.map AV.str) (strsFrom tk ys) := by
  induction ys generalizing tk with
  | nil => exact .nil
  | cons y ys ih => exact .cons (.str _ _) (ih (tk + 1))
theorem m_join {x : Str} {a : Addr} {ys : List Str} {Φ : AV → List Ent → Prop} (hm : lst a (ys.map AV.str) ∈ l) (hz : (ys.map (·.length)).sum + ys.length * x.length ≤ 16777216) (h : Φ (.str (Txt.join x ys)) l) :
    Wn C A Is l [.str x, .ref a] (fun vs => call (.builtin "str.join") vs) Φ := fun R f s vs S hv => by
  obtain ⟨_, _, rfl, h1, h2⟩ := hv.two
  obtain ⟨t, rfl⟩ := h1.strE
  obtain rfl := h2.refE
  obtain ⟨ws, m, hl, hi⟩ := S.isL (List.mem_append_left R hm)
  exact join_list hl.isList (isAll_strs hi) hz fun t' k => post (.refl f) (S.toks _) (.str _ _) h
theorem m_split {x : Str} {c : Nat} {Φ : AV → List Ent → Prop} (hz : x.length ≤ 10000) (h : ∀ a, Φ (.ref a) (lst a ((Txt.split x ⟨#[c]⟩).map AV.str) :: l)) :
    Wn C A Is l [.str x, .str ⟨#[c]⟩] (fun vs => call (.builtin "str.split") vs) Φ := fun R f s vs S hv => by
  obtain ⟨_, _, rfl, h1, h2⟩ := hv.two
  obtain ⟨t, rfl⟩ := h1.strE
  obtain ⟨u, rfl⟩ := h2.strE
  have hn := split_le x ⟨#[c]⟩
  have alone : Txt.split x ⟨#[c]⟩ = [x] → wants (Post C Is f R Φ) NoE (Except.ok (.ret (.ref s.heap.objs.size))) { s with heap := s.heap.push { cls := .type "list", data := .seq [Value.str x t].toArray } } := fun e => by
    have := h s.heap.objs.size
    rw [e] at this
    exact post (.refl f) (S.push (e := lst _ [.str x]) rfl ⟨_, _, rfl, .cons (.str _ _) .nil⟩ rfl rfl rfl rfl) (.ref _) this
  cases q1 : (decide (x.length < (⟨#[c]⟩ : Str).length) || decide (Builtin.Str.strKind x < Builtin.Str.strKind ⟨#[c]⟩)) with
  | true => exact call_meets F.slot_str_split (typeIs_str _ _ _) F.entry_str_split (F.args_str_split_2 _ _) (meets_str_split_cannot_occur x _ t u q1) (alone (if_pos q1))
  | false =>
    cases q2 : (Builtin.Str.occurrences x ⟨#[c]⟩ 0 x.length (x.length + 1)).isEmpty with
    | true => exact call_meets F.slot_str_split (typeIs_str _ _ _) F.entry_str_split (F.args_str_split_2 _ _) (meets_str_split_not_found x _ t u q1 rfl q2) (alone ((if_neg (ne_true_of_eq_false q1)).trans (if_pos q2)))
    | false =>
      have e : Txt.split x ⟨#[c]⟩ = _ := (if_neg (ne_true_of_eq_false q1)).trans (if_neg (ne_true_of_eq_false q2))
      rw [e] at hn h
      refine call_meets F.slot_str_split (typeIs_str _ _ _) F.entry_str_split (F.args_str_split_2 _ _) (meets_str_split_sep x _ t u q1 rfl q2 (by rw [sizeLine_eq]; omega) (by rw [sizeLine_eq]; omega)) ?_
      exact post (.refl f) ((S.push (e := lst _ _) rfl ⟨_, _, rfl, isAll_of_strs _ _⟩ rfl rfl rfl rfl : St C f ((lst s.heap.objs.size _ :: l) ++ R) { s with heap := s.heap.push _ }).toks _) (.ref _) (h _)
theorem t_int_str {x : Str} {i : Int} {Φ : AV → List Ent → Prop} (hi : PySem.intText? x = some i) (hz : x.length ≤ 640) (h : Φ (.int i) l) : Wn C A Is l [.str x] (fun vs => call (.type "int") vs) Φ := fun R f s vs S hv => by
  obtain ⟨_, rfl, h1⟩ := hv.one
  obtain ⟨t, rfl⟩ := h1.strE
  exact KIN.call_text hi hz (post (.refl f) (S.toks _) (.int _ _) h)
theorem t_tup_list {a : Addr} {xs : List AV} {Φ : AV → List Ent → Prop} (hm : lst a xs ∈ l) (hz : xs.length ≤ 100000) (h : Φ (.tup xs) l) : Wn C A Is l [.ref a] (fun vs => call (.type "tuple") vs) Φ := fun R f s vs S hv => by
  obtain ⟨_, rfl, h1⟩ := hv.one
  obtain rfl := h1.refE
  obtain ⟨ws, m, hl, hi⟩ := S.isL (List.mem_append_left R hm)
  have e : ws.size = xs.length := by have := hi.length; simpa using this
  refine call_tuple_list hl.isList (fun h' hk => ?_) (by rw [sizeLine_eq]; omega)
  have S1 : St C f (l ++ R) { s with heap := h' } := S.grow hk rfl rfl
  obtain ⟨f₂, h₁, h₂, h₃⟩ := St.freeze (o := { cls := .type "tuple", data := .seq ws }) (s' := { s with heap := h'.push { cls := .type "tuple", data := .seq ws } }) S1 rfl rfl rfl rfl
  exact post h₁ h₃ (.tup (n := 0) (by rw [h₂]) (hi.mono h₁)) h
theorem t_tup_tup {xs : List AV} {Φ : AV → List Ent → Prop} (h : Φ (.tup xs) l) : Wn C A Is l [.tup xs] (fun vs => call (.type "tuple") vs) Φ := fun R f s vs S hv => by
  obtain ⟨_, rfl, h1⟩ := hv.one
  obtain ⟨a, ws, m, rfl, ho, hi⟩ := id h1.tupE
  exact call_tuple_tup ⟨_, S.live _ _ ho, rfl, m, rfl⟩ (post (.refl f) S h1 h)
theorem t_list_list {a : Addr} {xs : List AV} {Φ : AV → List Ent → Prop} (hm : lst a xs ∈ l) (hz : xs.length ≤ 100000) (h : ∀ b, Φ (.ref b) (lst b xs :: l)) : Wn C A Is l [.ref a] (fun vs => call (.type "list") vs) Φ := fun R f s vs S hv => by
  obtain ⟨_, rfl, h1⟩ := hv.one
  obtain rfl := h1.refE
  obtain ⟨ws, m, hl, hi⟩ := S.isL (List.mem_append_left R hm)
  have e : ws.size = xs.length := by have := hi.length; simpa using this
  exact call_list_seq a (.inl rfl) hl rfl rfl (fun h' c' hk hc => post (.refl f) (S.addAt (e := lst s.heap.objs.size xs) (Nat.le_refl _) ⟨_, hc, _, _, rfl, hi⟩ hk rfl rfl) (.ref _) (h _)) (by rw [sizeLine_eq]; omega)
theorem t_bytes {a : Addr} {ns : List Int} {Φ : AV → List Ent → Prop} (r : Room A n) (hm : lst a (ns.map .int) ∈ l) (hr : ∀ n ∈ ns, 0 ≤ n ∧ n < 256) (hz : ns.length ≤ 100000) (h : Φ (.bytes (byteArr ns)) l) : Wn C A Is l [.ref a] (fun vs => call (.type "bytes") vs) Φ := fun R f s vs S hv => by
  obtain ⟨_, rfl, h1⟩ := hv.one
  obtain rfl := h1.refE
  obtain ⟨ws, m, hl, hi⟩ := S.isL (List.mem_append_left R hm)
  have e : ws.toList.length = ns.length := by have := hi.length; simpa using this
  exact call_bytes_ints (vs := ws.toList) hl.isList hi.ints hr (by rw [sizeLine_eq]; omega) r.handled fun h' t k hk => post (.refl f) (S.grow hk rfl rfl) (.bytes _ _) h
theorem b_max_list {a : Addr} {ns : List Int} {Φ : AV → List Ent → Prop} (r : Room A n) (hm : lst a (ns.map .int) ∈ l) (hne : ns ≠ []) (h : ∀ m, m ∈ ns → (∀ i ∈ ns, i ≤ m) → Φ (.int m) l) : Wn C A Is l [.ref a] (fun vs => call (.builtin "max") vs) Φ := fun R f s vs S hv => by
  obtain ⟨_, rfl, h1⟩ := hv.one
  obtain rfl := h1.refE
  obtain ⟨ws, m, hl, hi⟩ := S.isL (List.mem_append_left R hm)
  have hI := hi.ints
  obtain ⟨xs, hx⟩ := (show AllInts ws from by have := hI.allInts; simpa using this).items
  subst hx
  have hn : numsOf (intItems xs).toList = ns := hI.numsOf
  have hsz : xs.size = ns.length := by rw [← hn, nums_intItems]; simp
  have hpos : 0 < xs.size := by rw [hsz]; exact List.length_pos_iff.mpr hne
  rw [nums_intItems] at hn
  refine max_intList r.handled hl.isList hpos fun v h' tk hv hk => ?_
  obtain ⟨t, rfl⟩ := intItems_at hv
  obtain ⟨b1, b2⟩ := argBest_gt (numAt xs) (xs.size - 1)
  refine post (.refl f) (S.grow hk rfl rfl) (.int _ _) (h _ ?_ fun i hi => ?_)
  · rw [← hn, numAt_eq]; exact getD_mem (by rw [List.length_map, Array.length_toList]; omega)
  · rw [← hn] at hi
    obtain ⟨j, hj, rfl⟩ := mem_getD hi
    rw [List.length_map, Array.length_toList] at hj
    rw [← numAt_eq]; exact b2 j (by omega)
theorem any_ints {i : Int} {f : PH} {js : List Int} {vs : List Value} (h : IsAll f (js.map .int) vs) : vs.any (fun v => match v with | .int k _ => k == i | _ => false) = decide (i ∈ js) := by
  induction js generalizing vs with
  | nil => rw [h.nilE]; rfl
  | cons j js ih =>
    obtain ⟨v, r, rfl, a, t⟩ := h.consE
    cases a
    rw [List.any_cons, ih t]
    by_cases h : j = i
    · subst h; simp
    · simp [h, Ne.symm h]
theorem isAll_mem_int {f : PH} {v : Value} {js : List Int} {vs : List Value} (h : IsAll f (js.map .int) vs) (m : v ∈ vs) : ∃ k t, v = .int k t := by
  induction js generalizing vs with
  | nil => rw [h.nilE] at m; cases m
  | cons j js ih =>
    obtain ⟨u, r, rfl, a, t⟩ := h.consE
    cases a
    rcases List.mem_cons.mp m with rfl | m
    · exact ⟨_, _, rfl⟩
    · exact ih t m
theorem c2_in_tup {i : Int} {js : List Int} {xs : List AV} (e : xs = js.map .int) {Φ : AV → List Ent → Prop} (h : Φ (.bool (decide (i ∈ js))) l) : W2 C A Is l (.int i) (.tup xs) (compareOp .In) Φ := fun R f s _ _ S r r' => by
  subst e
  obtain ⟨t, rfl⟩ := r.intE
  obtain ⟨a, ws, m, rfl, ho, hi⟩ := r'.tupE
  refine SeqRoads2.in_tuple (fun v => match v with | .int k _ => k == i | _ => false) (fun y hy => ?_) (S.live _ _ ho) ?_
  · obtain ⟨k, u, rfl⟩ := isAll_mem_int hi (by simpa using hy)
    exact MeetsSeq.EqGives.int _ _ _ _
  · refine post (.refl f) S (.bool _) ?_
    have := any_ints (i := i) hi
    rw [List.any_toArray, this]; exact h
noncomputable def isNoneA : AV → Bool
  | .none => true
  | _ => false
theorem isNone_eq {f : PH} {x : AV} {v : Value} (h : Is f x v) : (v == .none) = isNoneA x := by cases h <;> rfl
theorem c2_is_none {x : AV} {Φ : AV → List Ent → Prop} (h : Φ (.bool (isNoneA x)) l) : W2 C A Is l x .none (compareOp .Is) Φ := fun R f s _ _ S r r' => by
  cases r'
  refine is_none (post (.refl f) S (.bool _) ?_)
  rw [isNone_eq r]; exact h
theorem c2_isnot_none {x : AV} {Φ : AV → List Ent → Prop} (h : Φ (.bool (!isNoneA x)) l) : W2 C A Is l x .none (compareOp .IsNot) Φ := fun R f s _ _ S r r' => by
  cases r'
  refine isNot_none (post (.refl f) S (.bool _) ?_)
  rw [isNone_eq r]; exact h
theorem tr_chain {e r₁ r₂ : Expr} {op₁ op₂ : CmpOp} {pos : Pos} {whole : Sem Value} {Φ : Bool → List Ent → Prop}
    (h : W C A l (eval e env) fun a l₁ => W C A l₁ (eval r₁ env) fun b l₂ => W2 C A Is l₂ a b (compareOp op₁) fun z l₃ => ∃ c, Truth z c ∧
      (c = true → W C A l₃ (eval r₂ env) fun d l₄ => W2 C A Is l₄ b d (compareOp op₂) fun z' l₅ => ∃ c', Truth z' c' ∧ Φ c' l₅) ∧ (c = false → Φ false l₃))
    (hm : lastMarks [op₁, op₂] [r₁, r₂] = false := by with_unfolding_all rfl) : WB C A l (isTrue (.Compare e [op₁, op₂] [r₁, r₂] pos) env whole) Φ :=
  fun R f s S => isTrue_chain (rs := []) (h.run S fun f₁ _ _ _ _ a₁ S₁ i₁ k₁ => test_link (k₁.run S₁ fun f₂ _ _ _ _ a₂ S₂ i₂ k₂ => k₂.run S₂ (i₁.mono a₂) i₂ fun f₃ _ _ _ _ a₃ S₃ i₃ k₃ => by
    obtain ⟨c, tr, kt, kf⟩ := k₃
    refine (truth_of (Φ := fun b l' => b = c ∧ l' = _) tr ⟨rfl, rfl⟩).run S₃ i₃ fun f₄ b l₄ w s₄ a₄ S₄ e₄ k₄ => ?_
    obtain ⟨rfl, rfl⟩ := k₄
    cases e₄
    cases b with
    | true => exact test_last ((kt rfl).run S₄ fun f₅ _ _ _ _ a₅ S₅ i₅ k₅ => k₅.run S₅ (((i₂.mono a₃).mono a₄).mono a₅) i₅ fun f₆ _ _ _ _ a₆ S₆ i₆ k₆ => by
        obtain ⟨c', tr', h'⟩ := k₆
        exact wp_up (((((a₁.trans a₂).trans a₃).trans a₄).trans a₅).trans a₆) (truth_of tr' h' _ _ _ _ S₆ i₆))
    | false => exact post (((a₁.trans a₂).trans a₃).trans a₄) S₄ rfl (kf rfl))) hm
end
end Mine
end
section
open PySem PySem.W PySem.Calls PyProof.Rows Builtin.ObjectAttr
namespace Mine
inductive KeyStrs : List DictEntry → List Str → Prop
  | nil : KeyStrs [] []
  | cons {h : Int} {k : Str} {t : Tok} {v : Value} {es : List DictEntry} {ks : List Str} : KeyStrs es ks → KeyStrs (⟨h, .str k t, v⟩ :: es) (k :: ks)
theorem KeyStrs.length {es : List DictEntry} {ks : List Str} (h : KeyStrs es ks) : es.length = ks.length := by
  induction h with
  | nil => rfl
  | cons _ ih => simp [ih]
theorem getL_nil (x : Str) : getL x [] = some none := rfl
theorem getL_cons {h : Int} {k : Str} {t : Tok} {v : Value} {es : List DictEntry} {ks : List Str} (_ : KeyStrs es ks) (x : Str) : getL x (⟨h, .str k t, v⟩ :: es) = if k = x then some (some v) else getL x es := by
  unfold getL
  rw [List.find?_cons]
  have e1 : (Value.str k t).isStr x = decide (k = x) := by show (k == x) = _; by_cases q : k = x <;> simp [q]
  dsimp only
  rw [e1]
  by_cases q : k = x
  · rw [decide_eq_true q, if_pos q]
  · rw [decide_eq_false q, if_neg q]
    dsimp only
    rw [List.any_cons]
    rfl
theorem KeyStrs.get {es : List DictEntry} {ks : List Str} (h : KeyStrs es ks) (x : Str) : getL x es = some (getL x es).join := by
  induction h with
  | nil => rfl
  | cons hk ih =>
    rw [getL_cons hk]
    split
    · rfl
    · exact ih
theorem KeyStrs.absent {es : List DictEntry} {ks : List Str} (h : KeyStrs es ks) {x : Str} (hx : x ∉ ks) : getL x es = some none := by
  induction h with
  | nil => rfl
  | cons hk ih =>
    simp only [List.mem_cons, not_or] at hx
    rw [getL_cons hk, if_neg (fun e => hx.1 e.symm)]
    exact ih hx.2
theorem KeyStrs.put {name : Str} {h : Int} {t : Tok} {v : Value} {es : List DictEntry} {ks : List Str} (r : KeyStrs es ks) (hn : ks.Nodup) : ∃ ks', KeyStrs (putL name h (.str name t) v es) ks' ∧ ks'.Nodup ∧ (∀ k ∈ ks', k ∈ ks ∨ k = name) ∧
    ∀ x, getL x (putL name h (.str name t) v es) = if x = name then some (some v) else getL x es := by
  induction r with
  | nil => exact ⟨[name], .cons .nil, List.nodup_cons.mpr ⟨List.not_mem_nil, List.nodup_nil⟩, fun k hk => .inr (List.mem_singleton.mp hk), fun x => by
      show getL x [_] = _
      rw [getL_cons .nil, getL_nil]
      by_cases q : x = name
      · rw [if_pos q.symm, if_pos q]
      · rw [if_neg (fun e => q e.symm), if_neg q]⟩
  | @cons h₀ k t₀ v₀ es ks r ih =>
    rw [List.nodup_cons] at hn
    have e1 : (Value.str k t₀).isStr name = decide (k = name) := by show (k == name) = _; by_cases q : k = name <;> simp [q]
    show ∃ ks', KeyStrs (if (Value.str k t₀).isStr name = true then ⟨h₀, .str k t₀, v⟩ :: es else ⟨h₀, .str k t₀, v₀⟩ :: putL name h (.str name t) v es) ks' ∧ ks'.Nodup ∧ (∀ k' ∈ ks', k' ∈ k :: ks ∨ k' = name) ∧
      ∀ x, getL x (if (Value.str k t₀).isStr name = true then ⟨h₀, .str k t₀, v⟩ :: es else ⟨h₀, .str k t₀, v₀⟩ :: putL name h (.str name t) v es) = _
    rw [e1]
    by_cases q : k = name
    · subst q
      rw [if_pos (decide_eq_true rfl)]
      refine ⟨k :: ks, .cons r, List.nodup_cons.mpr hn, fun k' h => .inl h, fun x => ?_⟩
      rw [getL_cons r, getL_cons r]
      by_cases q : k = x
      · rw [if_pos q, if_pos q.symm]
      · rw [if_neg q, if_neg (fun e => q e.symm), if_neg q]
    · rw [if_neg (by rw [decide_eq_false q]; decide)]
      obtain ⟨ks', h1, h2, h3, h4⟩ := ih hn.2
      refine ⟨k :: ks', .cons h1, List.nodup_cons.mpr ⟨fun hm => ?_, h2⟩, fun k' hk' => ?_, fun x => ?_⟩
      · rcases h3 _ hm with h | h
        · exact hn.1 h
        · exact q h
      · rcases List.mem_cons.mp hk' with h | h
        · exact .inl (h ▸ List.mem_cons_self ..)
        · rcases h3 _ h with h | h
          · exact .inl (List.mem_cons_of_mem _ h)
          · exact .inr h
      · rw [getL_cons h1, getL_cons r, h4]
        by_cases qx : k = x
        · subst qx; rw [if_pos rfl, if_neg q, if_pos rfl]
        · rw [if_neg qx, if_neg qx]
theorem nsIs_congr {f : PH} {m m' : Str → Option Value} (h : ∀ x, m x = m' x) : ∀ {ns : List Str} {vs : List (Option AV)}, NsIs f ns vs m → NsIs f ns vs m' := by
  have : m = m' := funext h
  subst this; intro ns vs h; exact h
noncomputable def att (d : Addr) (names : List Str) (vals : List (Option AV)) : Ent where
  a := d
  P := fun f o => ∃ es n ks, o = dictOf es n ∧ KeyStrs es ks ∧ ks.Nodup ∧ (∀ k ∈ ks, k ∈ names) ∧ NsIs f names vals (fun x => (getL x es).join) ∧ names.Nodup ∧ names.length ≤ 100
  mono := fun s h => by obtain ⟨es, n, ks, h1, h2, h3, h4, h5, h6, h7⟩ := h; exact ⟨es, n, ks, h1, h2, h3, h4, h5.mono s, h6, h7⟩
structure Cls (C : Cx) (c : Addr) : Prop where
  get : findIn (Kf C) (.ref c) "__getattribute__" = some (some (.builtin "object.__getattribute__"))
  ga : findIn (Kf C) (.ref c) "__getattr__" = some none
  dict : hasDictIn (Kf C) c = true
  set : findIn (Kf C) (.ref c) "__setattr__" = some (some (.builtin "object.__setattr__"))
  over : plainOver (Kf C) c = true
noncomputable def handsA : AV → Bool
  | .builtin _ => false
  | _ => true
theorem Is.noneE {f : PH} {v : Value} (h : Is f .none v) : v = .none := by cases h; rfl
theorem hands {f : PH} {x : AV} {v : Value} (h : Is f x v) (e : handsA x = true) : handedIn v = true := by
  cases h <;> first | rfl | cases e
section
variable {C : Cx} {A : Around} {n : Nat} {l l' : List Ent} {env : Env}
theorem St.inst {f : PH} {L : List Ent} {s : Shared} {a c d : Addr} {names : List Str} {vals : List (Option AV)} (S : St C f L s) (h1 : ins a c d ∈ L) (h2 : att d names vals ∈ L) :
    ∃ ox es n ks, InstAt s.heap a ox c (some (dictOf es n)) ∧ ox.dict = some d ∧ s.heap.get? d = some (dictOf es n) ∧ KeyStrs es ks ∧ ks.Nodup ∧ (∀ k ∈ ks, k ∈ names) ∧ NsIs f names vals (fun x => (getL x es).join) ∧ names.Nodup ∧ names.length ≤ 100 := by
  obtain ⟨ox, hox, e1, e2, e3, e4⟩ := S.get h1
  obtain ⟨od, hod, es, n, ks, rfl, k1, k2, k3, k4, k5, k6⟩ := S.get h2
  refine ⟨ox, es, n, ks, ⟨hox, e1, ?_, ?_⟩, e2, hod, k1, k2, k3, k4, k5, k6⟩
  · unfold notCls; rw [e3]
  · rw [e2]; exact hod
theorem ga_inst {a c d : Addr} {names : List Str} {vals : List (Option AV)} {attr : Str} {v : AV} {Φ : AV → List Ent → Prop} (K : Cls C c) (h1 : ins a c d ∈ l) (h2 : att d names vals ∈ l) (hv : LookN names vals attr v)
    (hf : findIn (Kf C) (.ref c) attr = some none) (h : Φ v l) (hh : handsA v = true := by rfl) : W1 C A Is l (.ref a) (fun o => getAttr o attr true) Φ := fun R f s o S ho => by
  obtain rfl := ho.refE
  obtain ⟨ox, es, n, ks, I, e2, hod, k1, k2, k3, k4, k5, k6⟩ := S.inst (List.mem_append_left R h1) (List.mem_append_left R h2)
  obtain ⟨u, hu, hi⟩ := hv.at k4
  have hl : lookIn attr (dictOf es n) = some (some u) := by rw [lookIn_dict, k1.get, hu]
  exact get_value (C.kin.keeps (S.base.trans S.live)) I K.get (findObj_own K.dict hf rfl hl) (hands hi hh) (post (.refl f) (S.toks _) hi h)
theorem ev_attr {value : Expr} {attr : Str} {pos : Pos} {Φ : AV → List Ent → Prop} (h : W C A l (eval value env) (Un1 C A (fun o => getAttr o attr true) Φ))
    (he : eval (.Attribute value attr pos) env = (do
      let o ← eval value env
      standAt pos.atName
      let r ← holding [o] (getAttr o attr true)
      letTemporaryGo value o r
      pure r) := by with_unfolding_all rfl) : W C A l (eval (.Attribute value attr pos) env) Φ :=
  fun R f s S => Attribute_any_ (h.run S fun _ _ _ _ _ a₁ S₁ r₁ k₁ => wp_up a₁ (k₁ _ _ _ _ S₁ r₁)) he
theorem osa_mine {w : World} {B : Around} {R : Result → Shared → Prop} {s : Shared} {K : Frag} {ox : Obj} {x c dx : Addr} {es : List DictEntry} {n : Nat} {name : Str} {tk : Tok} {v : Value} (X : K.In s.heap) (I : InstAt s.heap x ox c (some (dictOf es n))) (hd : ox.dict = some dx)
    (D : s.heap.get? dx = some (dictOf es n)) (hp : plainOver K c = true) (ht : takerIn K c name = some none) (hh : hasDictIn K c = true) (hl : (getL name es).isSome = true)
    (hz : (putL name (PyData.keyHash w.params name) (.str name s.toks) v es).length ≤ 1000)
    (h : ∀ h', Heap.SameBut dx s.heap h' → h'.get? dx = some (dictOf (putL name (PyData.keyHash w.params name) (.str name s.toks) v es) (putN name es n)) → R (.ok (.ret .none)) { s with heap := h', toks := s.toks + 1 }) :
    codeAny (model prg w) B (.call (.builtin "object.__setattr__") ⟨[.ref x, .str name tk, v], []⟩) R s := by
  refine osa_open X I hp ht fun b => ?_
  obtain ⟨cd, hc, hd'⟩ := any_some hh
  have D' : (s.heap.update dx (Obj.putName name (PyData.keyHash w.params name) (.str name s.toks) v)).get? dx = some (dictOf (putL name (PyData.keyHash w.params name) (.str name s.toks) v es) (putN name es n)) := by
    rw [← putName_dict]
    exact Heap.get?_update_self _ D (by rw [putName_dict]; rfl)
  obtain ⟨hx, hcl, hn, -⟩ := I
  obtain ⟨oc, odi, oda, osl⟩ := ox
  dsimp only at hcl hd
  subst hcl hd
  refine wpAny_bind (wpAny_pure (wpAny_bind (wpAny_bind (wpAny_loadPart hx (wpAny_bind ((looks_clsIn X hc).here ?_))))))
  rw [hd']
  refine wpAny_pure (a := some dx) (wpAny_bind (wpAny_pure (wpAny_bind ?_)))
  unfold nsSet
  refine wpAny_bind (wpAny_bind (wpAny_askSetting (wpAny_pure (wpAny_bind (wpAny_mkText (wpAny_bind (wpAny_loadPart D ?_)))))))
  dsimp only
  have c : (!es.toArray.any (·.key.isStr name) && es.toArray.any (·.refKey)) = false := by
    rw [List.any_toArray, List.any_toArray]
    unfold getL at hl
    split at hl
    · rename_i en he
      rw [List.any_eq_true.mpr ⟨en, List.mem_of_find?_eq_some he, List.find?_some he⟩]; rfl
    · split at hl
      · cases hl
      · rename_i z; rw [Bool.not_eq_true] at z; rw [z, Bool.and_false]
  rw [aRefKeyMayBeTheName_at, c]
  refine wpAny_updatePart D ?_
  refine wpAny_bind (wpAny_lookBehind D' (pastItsLine_dict (by rw [List.size_toArray, sizeLine_eq]; omega)) ?_)
  exact wpAny_pure (h _ (Heap.SameBut.update ..) D')
theorem nodup_le {α : Type} [DecidableEq α] : ∀ {a b : List α}, a.Nodup → (∀ x ∈ a, x ∈ b) → a.length ≤ b.length
  | [], _, _, _ => Nat.zero_le _
  | x :: a, b, hn, h => by
    rw [List.nodup_cons] at hn
    have hx : x ∈ b := h x (List.mem_cons_self ..)
    have := nodup_le (a := a) (b := b.erase x) hn.2 fun y hy => (List.mem_erase_of_ne (by rintro rfl; exact hn.1 hy)).mpr (h y (List.mem_cons_of_mem _ hy))
    rw [List.length_erase_of_mem hx] at this
    have : 0 < b.length := List.length_pos_of_mem hx
    simp only [List.length_cons]
    omega
theorem sa_inst {a c d : Addr} {names : List Str} {vals vals' : List (Option AV)} {attr : Str} {v : AV} {Φ : Unit → List Ent → Prop} (K : Cls C c) (h1 : ins a c d ∈ l) (U : Upd1 (att d names vals) (att d names vals') l l') (hv : SetN names vals attr v vals')
    (hf : findIn (Kf C) (.ref c) attr = some none) (h : Φ () l') : W2 C A isEq l (.ref a) v (fun o v => setAttr o attr v) Φ := fun R f s o u S ho hu => by
  obtain rfl := ho.refE
  obtain ⟨ox, es, n, ks, I, e2, hod, k1, k2, k3, k4, k5, k6⟩ := S.inst (List.mem_append_left R h1) (List.mem_append_left R U.mem)
  obtain ⟨ks', q1, q2, q3, q4⟩ := k1.put (name := attr) (h := PyData.keyHash C.w.params attr) (t := s.toks + 1) (v := u) k2
  have hsub : ∀ k ∈ ks', k ∈ names := fun k hk => (q3 k hk).elim (k3 k) fun e => e ▸ hv.mem
  have hz := nodup_le q2 hsub
  have hX : (Kf C).In s.heap := C.kin.keeps (S.base.trans S.live)
  refine set_plain hX I K.set (osa_mine (s := { s with toks := s.toks + 1 }) hX I e2 hod K.over (by unfold takerIn; rw [hf]; rfl) K.dict (by rw [k1.get]; rfl) (by rw [q1.length]; omega) fun h' hs hg => ?_)
  refine post (.refl f) ((S.upd U rfl hs ⟨_, hg, _, _, ks', rfl, q1, q2, hsub, ?_, k5, k6⟩ rfl rfl rfl : St C f (l' ++ R) { s with heap := h' }).toks _) rfl h
  refine nsIs_congr (fun x => ?_) (hv.at hu k5 k4)
  rw [q4 x]
  by_cases q : x = attr
  · rw [if_pos q, if_pos q]; rfl
  · rw [if_neg q, if_neg q]
noncomputable abbrev SetA2 (C : Cx) (A : Around) (env : Env) (attr : Str) (v : AV) (rest : List Stmt) (Φ : AF → List Ent → Prop) : AV → List Ent → Prop := fun x l => W2 C A isEq l x v (fun o v => setAttr o attr v) (RestP C A env rest Φ)
noncomputable abbrev SetA1 (C : Cx) (A : Around) (env : Env) (o : Expr) (attr : Str) (rest : List Stmt) (Φ : AF → List Ent → Prop) : AV → List Ent → Prop := fun v l => W C A l (eval o env) (SetA2 C A env attr v rest Φ)
theorem ex_attr {o value : Expr} {attr : Str} {p pos : Pos} {rest : List Stmt} {Φ : AF → List Ent → Prop}
    (h : W C A l (eval value env) (SetA1 C A env o attr rest Φ))
    (hs : swapsWith value (some (.Attribute o attr p)) pos.line env = pure false := by rfl) : WF C A l (execs (.Assign [.Attribute o attr p] value pos :: rest) env) Φ :=
  ex_seq fun _ _ _ S => plainObj_wpAny_Assign_Attribute (h.run S fun _ _ _ _ _ a₁ S₁ r₁ k₁ => k₁.run S₁ fun _ _ _ _ _ a₂ S₂ r₂ k₂ => k₂.run S₂ r₂ (r₁.mono a₂) fun _ _ _ _ _ a₃ S₃ _ k₃ => post ((a₁.trans a₂).trans a₃) S₃ .next ⟨rfl, k₃⟩) hs
theorem ex_aug_attr {o value : Expr} {attr : Str} {p pos : Pos} {op : Operator} {rest : List Stmt} {Φ : AF → List Ent → Prop}
    (h : W C A l (eval o env) fun x l₁ => W1 C A Is l₁ x (fun o => getAttr o attr true) fun y l₂ => W C A l₂ (eval value env) fun v l₃ => W2 C A Is l₃ y v (inplaceOp op) fun z l₄ => W2 C A isEq l₄ x z (fun o v => setAttr o attr v) fun _ l₅ => WF C A l₅ (execs rest env) Φ) :
    WF C A l (execs (.AugAssign (.Attribute o attr p) op value pos :: rest) env) Φ :=
  ex_seq fun _ _ _ S => wpAny_AugAssign_AttributeAny (h.run S fun _ _ _ _ _ a₁ S₁ r₁ k₁ => k₁.run S₁ r₁ fun _ _ _ _ _ a₂ S₂ r₂ k₂ => k₂.run S₂ fun _ _ _ _ _ a₃ S₃ r₃ k₃ => k₃.run S₃ (r₂.mono a₃) r₃ fun _ _ _ _ _ a₄ S₄ r₄ k₄ =>
    k₄.run S₄ (((r₁.mono a₂).mono a₃).mono a₄) r₄ fun _ _ _ _ _ a₅ S₅ _ k₅ => post ((((a₁.trans a₂).trans a₃).trans a₄).trans a₅) S₅ .next ⟨rfl, k₅⟩)
noncomputable abbrev CalI (C : Cx) (A : Around) (env : Env) (pos : Pos) (args : List Expr) (name : Str) (g : Addr) (Φ : AV → List Ent → Prop) : AV → List Ent → Prop := fun x l => ∃ a c d names vals, x = .ref a ∧ Cls C c ∧ ins a c d ∈ l ∧ att d names vals ∈ l ∧ findIn (Kf C) (.ref c) name = some (some (.ref g)) ∧ name ∉ names ∧
      WA C A l (spliced (backTo pos (starEach args env))) (RunX C A (.ref a) (.ref g) Φ)
noncomputable abbrev CalI0 (C : Cx) (A : Around) (name : Str) (g : Addr) (Φ : AV → List Ent → Prop) : AV → List Ent → Prop := fun x l => ∃ a c d names vals, x = .ref a ∧ Cls C c ∧ ins a c d ∈ l ∧ att d names vals ∈ l ∧ findIn (Kf C) (.ref c) name = some (some (.ref g)) ∧ name ∉ names ∧
      Wn C A Is l [.ref a] (fun vs => call (.ref g) vs) Φ
theorem gm_inst {a c d g : Addr} {names : List Str} {vals : List (Option AV)} {name : Str} {f : PH} {L : List Ent} {s : Shared} {pl : Sem Bool} {Q : Value × List Value → Shared → Prop} (K : Cls C c) (S : St C f L s) (h1 : ins a c d ∈ L) (h2 : att d names vals ∈ L)
    (hf : findIn (Kf C) (.ref c) name = some (some (.ref g))) (ht : typeIn (Kf C) (.ref g) = some (.type "function")) (hn : name ∉ names) (h : Q (.ref g, [.ref a]) s) : wpAny C.M A (getMethod (.ref a) name pl) Q NoE s := by
  obtain ⟨ox, es, n, ks, I, e2, hod, k1, k2, k3, k4, k5, k6⟩ := S.inst h1 h2
  refine method_fn (C.kin.keeps (S.base.trans S.live)) I K.get K.ga hf ht ?_ h
  show (lookIn name (dictOf es n)).map _ = _
  rw [lookIn_dict, k1.absent fun h => hn (k3 _ h)]; rfl
theorem ev_meth {o e : Expr} {rest : List Expr} {name : Str} {apos pos : Pos} {pl : Sem Bool} {g : Addr} {Φ : AV → List Ent → Prop}
    (h : W C A l (eval o env) (CalI C A env pos (e :: rest) name g Φ))
    (ht : typeIn (Kf C) (.ref g) = some (.type "function")) (hk : keepIn (Kf C) (.ref g) = true)
    (he : eval (.Call (.Attribute o name apos) (e :: rest) [] pos) env = (do
      let ov ← eval o env
      standAt apos.atName
      let (f, first) ← holding [ov] (getMethod ov name pl)
      callWith pos f first (backTo pos (starEach (e :: rest) env)) (backToKw pos (keywordEach [] env))) := by rfl)
    (hs : starEach (e :: rest) env = (false, eval e env) :: starEach rest env := by rfl) (hp : (backTo pos (starEach rest env)).any (·.1) = false := by rfl) :
    W C A l (eval (.Call (.Attribute o name apos) (e :: rest) [] pos) env) Φ := fun R f s S =>
  methodCall_KW (h.run S fun f₁ x l₁ v s₁ a₁ S₁ r₁ k₁ => by
    obtain ⟨a, c, d, names, vals, rfl, K, h1, h2, hf, hn, k⟩ := k₁
    obtain rfl := r₁.refE
    refine gm_inst K S₁ (List.mem_append_left R h1) (List.mem_append_left R h2) hf ht hn ?_
    exact callWith_K (C.kin) hk (k.run S₁ fun f₂ xs l₂ vs s₂ a₂ S₂ r₂ k₂ => ⟨C.kin.keeps (S₂.base.trans S₂.live), wp_up (a₁.trans a₂) (k₂ _ _ _ _ S₂ (.cons (.ref _) r₂))⟩) hs hp) he
theorem ev_meth0 {o : Expr} {name : Str} {apos pos : Pos} {pl : Sem Bool} {g : Addr} {Φ : AV → List Ent → Prop}
    (h : W C A l (eval o env) (CalI0 C A name g Φ))
    (ht : typeIn (Kf C) (.ref g) = some (.type "function")) (hk : keepIn (Kf C) (.ref g) = true)
    (he : eval (.Call (.Attribute o name apos) [] [] pos) env = (do
      let ov ← eval o env
      standAt apos.atName
      let (f, first) ← holding [ov] (getMethod ov name pl)
      callWith pos f first (backTo pos (starEach [] env)) (backToKw pos (keywordEach [] env))) := by rfl) :
    W C A l (eval (.Call (.Attribute o name apos) [] [] pos) env) Φ := fun R f s S =>
  methodCall_KW (h.run S fun f₁ x l₁ v s₁ a₁ S₁ r₁ k₁ => by
    obtain ⟨a, c, d, names, vals, rfl, K, h1, h2, hf, hn, k⟩ := k₁
    obtain rfl := r₁.refE
    refine gm_inst K S₁ (List.mem_append_left R h1) (List.mem_append_left R h2) hf ht hn ?_
    exact callWith_K0 (C.kin.keeps (S₁.base.trans S₁.live)) hk (wp_up a₁ (k _ _ _ _ S₁ (.cons (.ref _) .nil)))) he
theorem make_inst {c fI : Addr} {fd : FuncData} {body : List Stmt} {params rest names anames : List Str} {vals : List (Option AV)} {xs : List AV} {Φ : AV → List Ent → Prop} (F : FnOf C fI fd body) (hr : Room A (n + 2))
    (hm : makesIn (Kf C) c = true) (hi : findIn (Kf C) (.ref c) "__init__" = some (some (.ref fI))) (hf : typeIn (Kf C) (.ref fI) = some (.type "function"))
    (hbind : ∀ (s : Shared) (vs : List Value), (∀ b o, C.h0.get? b = some o → s.heap.get? b = some o) → vs.length = xs.length + 1 → BindsTo s fd ⟨vs, []⟩ (params.zip vs))
    (hcell : fd.scope.names.all (fun x => decide (x.2 ≠ .cell)) = true) (hloc : checkNames fd.scope .local params = true) (hlen : params.length = xs.length + 1) (hnd : (params ++ rest).Nodup)
    (hns : params ++ rest = names) (hvals : ∀ a, ((AV.ref a :: xs).map some ++ rest.map fun _ => none) = some (.ref a) :: vals) (had : anames.Nodup) (hal : anames.length ≤ 100)
    (h : ∀ B env a d, EnvIs fd.scope [] env → Room B n → WF C B (ns env.locals names (some (.ref a) :: vals) :: ins a c d :: att d anames (anames.map fun _ => none) :: l) (execs body env) fun fl l' => Ret fl .none ∧ ∃ l'', Gives l' l'' ∧ Φ (.ref a) l'') :
    Wn C A Is l xs (fun vs => call (.ref c) vs) Φ := fun R f s vs S hvs => by
  have hX : (Kf C).In s.heap := C.kin.keeps (S.base.trans S.live)
  refine wpAny_call ?_
  obtain ⟨hh, g, dr, t, os⟩ := s
  refine make_core (makes_of hX hm) (looks_findIn hX hi) (fun self => bind_fn hX self hf) (.inl rfl) ?_
  have S1 : St C f ((att hh.objs.size anames (anames.map fun _ => none) :: l) ++ R) ⟨hh.push emptyDict, g, dr, t, os⟩ :=
    S.push (e := att hh.objs.size anames (anames.map fun _ => none)) rfl ⟨[], 0, [], rfl, .nil, List.nodup_nil, (fun _ h => (nomatch h)), NsIs.nones _, had, hal⟩ rfl rfl rfl rfl
  have S2 : St C f ((ins (hh.objs.size + 1) c hh.objs.size :: att hh.objs.size anames (anames.map fun _ => none) :: l) ++ R) ⟨(hh.push emptyDict).push (instObj c hh.objs.size), g, dr, t, os⟩ :=
    St.push (e := ins (hh.objs.size + 1) c hh.objs.size) (s' := ⟨(hh.push emptyDict).push (instObj c hh.objs.size), g, dr, t, os⟩) S1 (by show hh.objs.size + 1 = _; rw [Heap.size_push]) ⟨rfl, rfl, rfl, rfl⟩ rfl rfl rfl rfl
  generalize (hh.push emptyDict).push (instObj c hh.objs.size) = h2 at S2 ⊢
  generalize hh.objs.size + 1 = a at S2 ⊢
  generalize hh.objs.size = d at S2 ⊢
  have hr' : Room (A.under (.builtin "type.__call__" ⟨.ref c :: vs, []⟩)) (n + 1) := ⟨hr.handled, by have := hr.depth; rw [depth_under_make]; omega, by have := hr.units; rw [units_under_make]; omega⟩
  generalize A.under (.builtin "type.__call__" ⟨.ref c :: vs, []⟩) = B at hr' ⊢
  obtain ⟨o, ho, hdata⟩ := F.ho
  have hk := S2.base.trans S2.live
  have hvs' : IsAll f (.ref a :: xs) (.ref a :: vs) := .cons (.ref _) hvs
  have hl : (Value.ref a :: vs).length = xs.length + 1 := by rw [List.length_cons, hvs.length]
  subst hns
  refine codeAny_call_def hr'.lim (hk _ _ ho) hdata (C.nolimit.keeps hk) (F.hcd.keeps hk) F.hbody (hbind _ _ hk hl) (fun x hx => of_decide_eq_true (List.all_eq_true.mp hcell x hx)) (fun x hx => (checkNames_at hloc _ ?_).1) (fun h₀ hns hkeep => ?_) F.hco F.hgen F.hk
  · exact (List.of_mem_zip hx).1
  · have e1 : EnvIs fd.scope [] (callEnv fd h2.objs.size fI) := ⟨Eq.refl _, F.hg, F.hb, F.hclo⟩
    have W := h _ _ a d e1 (hr'.deeper (callEnv fd h2.objs.size fI))
    have SL : St C f ((ns h2.objs.size (params ++ rest) (some (.ref a) :: vals) :: ins a c d :: att d anames (anames.map fun _ => none) :: l) ++ R) ⟨h₀, g, dr, t + (params.zip (Value.ref a :: vs)).length, os⟩ := by
      rw [← hvals a]
      obtain ⟨o', es, ep, ho', hd', hsk, hm⟩ := hns
      exact St.addAt (s' := ⟨h₀, g, dr, t + (params.zip (Value.ref a :: vs)).length, os⟩) S2 (Nat.le_refl _) ⟨o', ho', _, es, ep, hd', hsk, hm, NsIs.append (ns_of (fun p v hpv => lookup_zip (List.nodup_append.mp hnd).1 hpv) hvs' (by rw [hlen]; rfl)) (NsIs.nones rest), hnd⟩ hkeep rfl rfl
    refine wpAny_mono (W R f _ SL) (fun fl s' hp => ?_) fun _ _ e => e.elim
    obtain ⟨f', af, l', a1, S3, r3, rt, l'', gv, k⟩ := hp
    have hv := PySem_mono r3 rt (.refl f')
    have e : flowVal fl = .none := hv.noneE
    show InitBack a _ (.ok (.ret (flowVal fl))) s'
    rw [e]
    exact ⟨rfl, f', _, l'', a1, gv.st S3, .ref _, k⟩
end
end Mine
end
section
open PySem PySem.W PySem.Calls PyProof.Rows
namespace Mine
noncomputable def dget {K γ : Type} [DecidableEq K] (kv : List (K × γ)) (k : K) : Option γ := (kv.find? fun p => decide (p.1 = k)).map (·.2)
noncomputable def dput {K γ : Type} [DecidableEq K] (kv : List (K × γ)) (k : K) (v : γ) : List (K × γ) := if (kv.any fun p => decide (p.1 = k)) = true then kv.map (fun p => if p.1 = k then (p.1, v) else p) else kv ++ [(k, v)]
section
variable {K : Type} [DecidableEq K]
theorem dput_length {γ : Type} (kv : List (K × γ)) (k : K) (v : γ) : (dput kv k v).length ≤ kv.length + 1 := by
  unfold dput
  split <;> simp
theorem PairsAre.any {f : PH} {kv : List (K × AV)} {kvs : List (K × Value)} (h : PairsAre f kv kvs) (k : K) : (kvs.any fun p => decide (p.1 = k)) = (kv.any fun p => decide (p.1 = k)) := by
  induction h with
  | nil => rfl
  | cons _ _ ih => rw [List.any_cons, List.any_cons, ih]
theorem PairsAre.at {f : PH} {kv : List (K × AV)} {kvs : List (K × Value)} (h : PairsAre f kv kvs) (k : K) : (dget kv k = none ∧ valueAt kvs k = none) ∨ ∃ x v, dget kv k = some x ∧ valueAt kvs k = some v ∧ Is f x v := by
  induction h with
  | nil => exact .inl ⟨rfl, rfl⟩
  | @cons k' x v xs vs hx _ ih =>
    unfold dget valueAt
    rw [List.find?_cons, List.find?_cons]
    dsimp only
    by_cases q : k' = k
    · rw [decide_eq_true q]; exact .inr ⟨x, v, rfl, rfl, hx⟩
    · rw [decide_eq_false q]; exact ih
theorem PairsAre.append {f : PH} {kv kv' : List (K × AV)} {kvs kvs' : List (K × Value)} (h : PairsAre f kv kvs) (h' : PairsAre f kv' kvs') : PairsAre f (kv ++ kv') (kvs ++ kvs') := by
  induction h with
  | nil => exact h'
  | cons a _ ih => exact .cons a ih
theorem PairsAre.store {f : PH} {kv : List (K × AV)} {kvs : List (K × Value)} (h : PairsAre f kv kvs) {k : K} {x : AV} {v : Value} (hx : Is f x v) : PairsAre f (dput kv k x) (stored kvs k v) := by
  unfold dput stored
  rw [h.any k]
  split
  · rename_i hq; clear hq
    induction h with
    | nil => exact .nil
    | cons a _ ih =>
      simp only [List.map_cons]
      split
      · exact .cons hx ih
      · exact .cons a ih
  · exact h.append (.cons hx .nil)
end
noncomputable def KeyA {w : World} {K : Type} [DecidableEq K] (knd : KeyKind prg w K) (k : K) (y : AV) : Prop := ∀ f v, Is f y v → knd.is k v = true
theorem keyI {w : World} (k : Int) : KeyA (intKind prg w) k (.int k) := fun f v h => by obtain ⟨t, rfl⟩ := h.intE; exact intKind_is ..
theorem keyS {w : World} (k : Str) : KeyA (strKind prg w) k (.str k) := fun f v h => by obtain ⟨t, rfl⟩ := h.strE; exact strKind_is ..
section
variable {C : Cx} {A : Around} {n : Nat} {l l' : List Ent} {env : Env} {K : Type} [DecidableEq K] {knd : KeyKind prg C.w K}
theorem St.dic {f : PH} {L : List Ent} {s : Shared} {a : Addr} {kv : List (K × AV)} {oe : Option Nat} (S : St C f L s) (h : dic C.w knd a kv oe ∈ L) : (a == sysModules) = false ∧ ∃ kvs, s.heap.DictOf knd a kvs ∧ PairsAre f kv kvs ∧ (kvs.map (·.1)).Nodup := by
  obtain ⟨o, ho, h, kvs, es, ep, h1, h2, h3, h4, h5, h6, h7⟩ := S.get h
  exact ⟨h, kvs, ⟨o, es, ep, ho, h1, h2, h3, h4, h5⟩, h6, h5⟩
theorem dic_of {f : PH} {h : Heap} {a : Addr} {kv : List (K × AV)} {kvs : List (K × Value)} (hs : (a == sysModules) = false) (hd : h.DictOf knd a kvs) (hp : PairsAre f kv kvs) : ∃ o, h.get? a = some o ∧ (dic C.w knd a kv none).P f o := by
  obtain ⟨o, es, ep, ho, h1, h2, h3, h4, h5⟩ := hd
  exact ⟨o, ho, hs, kvs, es, ep, h1, h2, h3, h4, h5, hp, fun _ e => (nomatch e)⟩
theorem gi_dict {value slice : Expr} {a : Addr} {kv : List (K × AV)} {oe : Option Nat} {k : K} {x y : AV} {Φ : AV → List Ent → Prop} (hm : dic C.w knd a kv oe ∈ l) (hk : KeyA knd k y) (hx : dget kv k = some x) (h : Φ x l) :
    W2 C A Is l (.ref a) y (fun o i => subscriptTail value slice o i) Φ := fun R f s v u S hv hu => by
  obtain rfl := hv.refE
  obtain ⟨_, kvs, hd, hp, _⟩ := S.dic (List.mem_append_left R hm)
  rcases hp.at k with ⟨e, _⟩ | ⟨x', w, e, hw, hi⟩
  · rw [hx] at e; cases e
  · rw [hx] at e; cases e
    exact sub_tail hd.typeIs slot_dict_getitem.lookup (wpAny_getItem_of (hk f u hu) hd.mapOf hw (post (.refl f) (S.toks _) hi h))
theorem si_dict {a : Addr} {kv : List (K × AV)} {oe : Option Nat} {k : K} {x y : AV} {Φ : Unit → List Ent → Prop} (U : Upd1 (dic C.w knd a kv oe) (dic C.w knd a (dput kv k x) none) l l') (hk : KeyA knd k y) (hz : kv.length ≤ 100000) (h : Φ () l') :
    W3 C A isEq l (.ref a) y x (fun o i v => setItem o i v) Φ := fun R f s v u w S hv hu hw => by
  obtain rfl := hv.refE
  obtain ⟨hs, kvs, hd, hp, _⟩ := S.dic (List.mem_append_left R U.mem)
  refine wpAny_setItem_pairs (hk f u hu) hd (fun h' hd' hb => ?_) (by rw [hp.length, sizeLine_eq]; omega)
  exact post (.refl f) ((S.upd U rfl hb (dic_of hs hd' (hp.store hw)) rfl rfl rfl : St C f (l' ++ R) { s with heap := h' }).toks _) rfl h
theorem si_list {a : Addr} {xs xs' : List AV} {i : Int} {j : Nat} {x : AV} {Φ : Unit → List Ent → Prop} (U : Upd1 (lst a xs) (lst a xs') l l') (hx : xs' = xs.set j x) (hj : seqIndex? i xs.length = some j) (hlt : j < xs.length) (hb : -100000 ≤ i ∧ i ≤ 100000) (h : Φ () l') :
    W3 C A isEq l (.ref a) (.int i) x (fun o i v => setItem o i v) Φ := fun R f s v u w S hv hu hw => by
  subst hx
  obtain rfl := hv.refE
  obtain ⟨t, rfl⟩ := hu.intE
  obtain ⟨ws, m, hl, hi⟩ := S.isL (List.mem_append_left R U.mem)
  have e : ws.size = xs.length := by have := hi.length; simpa using this
  refine setItem_at hl hb (j := j) (by rw [e]; exact hj) (by omega) ?_
  refine post (.refl f) (S.upd U rfl (Heap.SameBut.update ..) ⟨_, IsL.update hl _, _, _, rfl, ?_⟩ rfl rfl rfl) rfl h
  simpa using hi.set hw (i := j)
noncomputable abbrev SetS3 (C : Cx) (A : Around) (env : Env) (x v : AV) (rest : List Stmt) (Φ : AF → List Ent → Prop) : AV → List Ent → Prop := fun y l => W3 C A isEq l x y v (fun o i v => setItem o i v) (RestP C A env rest Φ)
noncomputable abbrev SetS2 (C : Cx) (A : Around) (env : Env) (i : Expr) (v : AV) (rest : List Stmt) (Φ : AF → List Ent → Prop) : AV → List Ent → Prop := fun x l => W C A l (eval i env) (SetS3 C A env x v rest Φ)
noncomputable abbrev SetS1 (C : Cx) (A : Around) (env : Env) (o i : Expr) (rest : List Stmt) (Φ : AF → List Ent → Prop) : AV → List Ent → Prop := fun v l => W C A l (eval o env) (SetS2 C A env i v rest Φ)
theorem ex_sub {o i value : Expr} {p pos : Pos} {rest : List Stmt} {Φ : AF → List Ent → Prop}
    (h : W C A l (eval value env) (SetS1 C A env o i rest Φ))
    (hs : swapsWith value (some (.Subscript o i p)) pos.line env = pure false := by rfl) : WF C A l (execs (.Assign [.Subscript o i p] value pos :: rest) env) Φ :=
  ex_seq fun _ _ _ S => wpAny_Assign_Subscript (h.run S fun _ _ _ _ _ a₁ S₁ r₁ k₁ => k₁.run S₁ fun _ _ _ _ _ a₂ S₂ r₂ k₂ => k₂.run S₂ fun f₃ _ _ _ s₃ a₃ S₃ r₃ k₃ =>
    wpAny_mono (k₃ _ _ _ _ _ _ S₃ (r₂.mono a₃) r₃ ((r₁.mono a₂).mono a₃)) (fun _ _ ⟨_, _, _, a₄, S₄, _, k₄⟩ => post (((a₁.trans a₂).trans a₃).trans a₄) S₄ .next ⟨rfl, k₄⟩) fun _ _ e => e) hs
theorem c2_notin_dict {a : Addr} {kv : List (K × AV)} {oe : Option Nat} {k : K} {y : AV} {Φ : AV → List Ent → Prop} (hm : dic C.w knd a kv oe ∈ l) (hk : KeyA knd k y) (h : Φ (.bool (!(dget kv k).isSome)) l) :
    W2 C A Is l y (.ref a) (compareOp .NotIn) Φ := fun R f s u v S hu hv => by
  obtain rfl := hv.refE
  obtain ⟨hs, kvs, hd, hp, _⟩ := S.dic (List.mem_append_left R hm)
  refine wpAny_notIn_of (hk f u hu) hs hd.mapOf (post (.refl f) (S.toks _) (.bool _) ?_)
  rcases hp.at k with ⟨e, e'⟩ | ⟨x', w, e, e', hi⟩ <;> rw [e'] <;> rw [e] at h <;> exact h
theorem St.low {f : PH} {L : List Ent} {s : Shared} (S : St C f L s) : (s.heap.objs.size == sysModules) = false := by
  have h1 := modules_low (C.nolimit.keeps (S.base.trans S.live))
  have : s.heap.objs.size ≠ sysModules := Nat.ne_of_gt h1
  simpa using this
theorem ev_dict0 (knd : KeyKind prg C.w K) {pos : Pos} {Φ : AV → List Ent → Prop} (h : ∀ a, Φ (.ref a) (dic C.w knd a [] none :: l)) : W C A l (eval (.Dict [] [] pos) env) Φ := fun R f s S =>
  wpAny_Dict_empty (post (.refl f) (S.push (e := dic C.w knd s.heap.objs.size [] none) rfl ⟨S.low, [], #[], 0, ⟨rfl, rfl, rfl⟩, rfl, (fun e he => by simp at he), .nil, List.nodup_nil, .nil, fun _ e => (nomatch e)⟩ rfl rfl rfl rfl) (.ref _) (h _))
inductive PairsV (f : PH) : List (AV × AV) → List (Value × Value) → Prop
  | nil : PairsV f [] []
  | cons {x y : AV} {u v : Value} {xs : List (AV × AV)} {vs : List (Value × Value)} : Is f x u → Is f y v → PairsV f xs vs → PairsV f ((x, y) :: xs) ((u, v) :: vs)
noncomputable abbrev WP (C : Cx) (A : Around) (l : List Ent) (t : Sem (List (Value × Value))) (Φ : List (AV × AV) → List Ent → Prop) : Prop := Wr C A PairsV l t Φ
inductive KeysA {w : World} {K : Type} [DecidableEq K] (knd : KeyKind prg w K) : List (AV × AV) → List (K × AV) → Prop
  | nil : KeysA knd [] []
  | cons {k : K} {y x : AV} {xs : List (AV × AV)} {kv : List (K × AV)} : KeyA knd k y → KeysA knd xs kv → KeysA knd ((y, x) :: xs) ((k, x) :: kv)
theorem KeysA.carries {f : PH} {xs : List (AV × AV)} {kv : List (K × AV)} {vs : List (Value × Value)} (h : KeysA knd xs kv) (p : PairsV f xs vs) : ∃ kvs, Carries knd vs kvs ∧ PairsAre f kv kvs := by
  induction h generalizing vs with
  | nil => cases p; exact ⟨[], trivial, .nil⟩
  | cons hk _ ih => cases p with
    | cons hx hy ht =>
      obtain ⟨kvs, a, b⟩ := ih ht
      exact ⟨(_, _) :: kvs, ⟨hk _ _ hx, rfl, a⟩, .cons hy b⟩
theorem ep_nil {Φ : List (AV × AV) → List Ent → Prop} (h : Φ [] l) : WP C A l (evalPairs []) Φ := fun _ f _ S => evalPairs_nil (post (.refl f) S .nil h)
theorem ep_cons {k v : Sem Value} {rest : List (Sem Value × Sem Value)} {Φ : List (AV × AV) → List Ent → Prop} (h : W C A l k fun x l₁ => W C A l₁ v fun y l₂ => WP C A l₂ (evalPairs rest) fun ps l₃ => Φ ((x, y) :: ps) l₃) : WP C A l (evalPairs ((k, v) :: rest)) Φ :=
  fun _ _ _ S => evalPairs_cons (h.run S fun _ _ _ _ _ a₁ S₁ r₁ k₁ => k₁.run S₁ fun _ _ _ _ _ a₂ S₂ r₂ k₂ => k₂.run S₂ fun _ _ _ _ _ a₃ S₃ r₃ k₃ => post ((a₁.trans a₂).trans a₃) S₃ (.cons ((r₁.mono a₂).mono a₃) (r₂.mono a₃) r₃) k₃)
theorem ev_stand {e : Expr} {pos : Pos} {Φ : AV → List Ent → Prop} (h : W C A l (eval e env) Φ) : W C A l (do let x ← eval e env; standAt pos; pure x) Φ :=
  fun _ _ _ S => wpAny_bind (h.run S fun _ _ _ _ _ a₁ S₁ r₁ k₁ => wpAny_bind (wpAny_standAt (wpAny_pure (post a₁ S₁ r₁ k₁))))
theorem ev_dict (knd : KeyKind prg C.w K) {keys : List (Option Expr)} {values : List Expr} {pos : Pos} {Φ : AV → List Ent → Prop}
    (h : ∀ a, WP C A (dic C.w knd a [] none :: l) (evalPairs (pairTrees keys values env pos)) fun ps l₁ => ∃ kv l₂, KeysA knd ps kv ∧ (kv.map (·.1)).Nodup ∧ Upd1 (dic C.w knd a [] none) (dic C.w knd a kv none) l₁ l₂ ∧ Φ (.ref a) l₂)
    (hshape : (evalEachOpt keys env).zip ((evalEach values env).map fun v => do let x ← v; standAt pos; pure x) = (pairTrees keys values env pos).map fun p => (some p.1, p.2) := by rfl)
    (h0 : pairTrees keys values env pos ≠ [] := by simp [pairTrees]) (hlen : (pairTrees keys values env pos).length ≤ 15 := by simp [pairTrees]) :
    W C A l (eval (.Dict keys values pos) env) Φ := fun R f s S => by
  refine wpAny_Dict_pairs (knd := knd) hshape h0 hlen ?_
  have S1 : St C f ((dic C.w knd s.heap.objs.size [] none :: l) ++ R) { s with heap := s.heap.push { cls := .type "dict", data := .dict #[] } } :=
    S.push (e := dic C.w knd s.heap.objs.size [] none) rfl ⟨S.low, [], #[], 0, ⟨rfl, rfl, rfl⟩, rfl, (fun e he => by simp at he), .nil, List.nodup_nil, .nil, fun _ e => (nomatch e)⟩ rfl rfl rfl rfl
  refine Wr.run (h s.heap.objs.size) S1 fun f' ps l₁ vs s₁ a₁ S₁ r₁ k₁ => ?_
  obtain ⟨kv, l₂, ka, hn, U, hΦ⟩ := k₁
  obtain ⟨kvs, hc, hp⟩ := ka.carries r₁
  obtain ⟨hs, kvs', hd, hp', _⟩ := S₁.dic (List.mem_append_left R U.mem)
  have e0 : kvs' = [] := by cases hp'; rfl
  subst e0
  refine ⟨kvs, hc, hd, fun h' hd' hb => ?_⟩
  rw [merged_nil_of_nodup kvs (by rw [hp.keys]; exact hn)] at hd'
  exact post a₁ ((S₁.upd U rfl hb (dic_of hs hd' hp) rfl rfl rfl : St C f' (l₂ ++ R) { s₁ with heap := h' }).toks _) (.ref _) hΦ
theorem t_dict_dict {a : Addr} {kv : List (K × AV)} {oe : Option Nat} {Φ : AV → List Ent → Prop} (hm : dic C.w knd a kv oe ∈ l) (hz : kv.length ≤ 100000) (h : ∀ b, Φ (.ref b) (dic C.w knd b kv none :: l)) : Wn C A Is l [.ref a] (fun vs => call (.type "dict") vs) Φ := fun R f s vs S hv => by
  obtain ⟨_, rfl, h1⟩ := hv.one
  obtain rfl := h1.refE
  obtain ⟨hs, kvs, hd, hp, _⟩ := S.dic (List.mem_append_left R hm)
  refine kt_call_dict hs hd (by rw [hp.length, sizeLine_eq]; omega) fun h' hd' hb => ?_
  have hk : ∀ b o, s.heap.get? b = some o → h'.get? b = some o := fun b o e => hb.extBut b o (Nat.ne_of_lt (Heap.lt_size e)) (Heap.get?_push_of_some _ e)
  exact post (.refl f) (S.addAt (e := dic C.w knd s.heap.objs.size kv none) (Nat.le_refl _) (dic_of S.low hd' hp) hk rfl rfl) (.ref _) (h _)
theorem c2_dict_ne_nil {a b : Addr} {kv : List (K × AV)} {oe : Option Nat} {Φ : AV → List Ent → Prop} (r : Room A n) (h1 : dic C.w knd a kv oe ∈ l) (h2 : dic C.w knd b [] none ∈ l) (h : Φ (.bool (decide (kv ≠ []))) l) :
    W2 C A Is l (.ref a) (.ref b) (compareOp .NotEq) Φ := fun R f s v u S hv hu => by
  obtain rfl := hv.refE
  obtain rfl := hu.refE
  obtain ⟨hs, kvs, hd, hp, _⟩ := S.dic (List.mem_append_left R h1)
  obtain ⟨hs', kvs', hd', hp', _⟩ := S.dic (List.mem_append_left R h2)
  have e0 : kvs' = [] := by cases hp'; rfl
  subst e0
  by_cases hx : kv = []
  · subst hx
    have e1 : kvs = [] := by cases hp; rfl
    subst e1
    exact keq_ne (r := true) hs hs' hd hd' r.line (fun _ => .nil) (post (.refl f) S (.bool _) (by simpa using h))
  · have hl := hp.length
    have : kvs.length ≠ 0 := fun q => hx (List.length_eq_zero_iff.mp (by omega))
    refine keq_ne (r := true) hs hs' hd hd' r.line (fun q => (this q).elim) (post (.refl f) S (.bool _) ?_)
    rw [decide_eq_true hx] at h
    have e : (kvs.length == ([] : List (K × Value)).length) = false := by simpa using this
    rw [e]; exact h
theorem Wr.epoch {α β : Type} {rel : PH → β → α → Prop} {a : Addr} {kv : List (K × AV)} {t : Sem α} {Φ : β → List Ent → Prop} {g : Nat → List Ent} (U : ∀ e, Upd1 (dic C.w knd a kv none) (dic C.w knd a kv (some e)) l (g e)) (h : ∀ e, Wr C A rel (g e) t Φ) : Wr C A rel l t Φ := fun R f s S => by
  obtain ⟨o, ho, hs, kvs, es, ep, h1, h2, h3, h4, h5, h6, h7⟩ := S.get (List.mem_append_left R (U 0).mem)
  exact h ep R f s (S.upd (U ep) rfl (Heap.SameBut.refl ..) ⟨o, ho, hs, kvs, es, ep, h1, h2, h3, h4, h5, h6, fun e q => by cases q; rfl⟩ rfl rfl rfl)
end
end Mine
end
section
open PySem PySem.W PySem.Calls PyProof.Rows
namespace Mine
section
variable {C : Cx} {A : Around} {n : Nat} {l l' : List Ent} {env : Env}
theorem items_of {f : PH} {w : World} : ∀ {ks : List Int} {vs : List Value}, IsAll f (ks.map .int) vs → ItemsAre (intKind prg w) ks vs
  | [], _, .nil => .nil
  | _ :: _, _, .cons (.int k t) r => .cons (intKind_is ..) (items_of r)
theorem tupKey_of {f : PH} {L : List Ent} {s : Shared} {ks : List Int} {a : Addr} (S : St C f L s) (h : Is f (.tup (ks.map .int)) (.ref a)) : IsTupleKey (intKind prg C.w) s.heap ks a := by
  cases h with
  | tup ho hi => exact ⟨_, _, _, S.live _ _ ho, rfl, rfl, by simpa using items_of hi⟩
theorem TrisAre.kinds {f : PH} {L : List Ent} {s : Shared} (S : St C f L s) {kv : List (List Int × AV)} {xs : List (List Int × Addr × Value)} (h : TrisAre f kv xs) : ∀ x ∈ xs, (tKind C.w).is s.heap x.1 x.2.1 := by
  induction h with
  | nil => intro x hx; cases hx
  | cons a _ _ ih =>
    intro x hx
    rcases List.mem_cons.mp hx with rfl | hx
    · exact tupKey_of S a
    · exact ih x hx
theorem TrisAre.at {f : PH} {kv : List (List Int × AV)} {xs : List (List Int × Addr × Value)} (h : TrisAre f kv xs) (k : List Int) : (dget kv k = none ∧ atKey xs k = none) ∨ ∃ x p, dget kv k = some x ∧ atKey xs k = some p ∧ Is f x p.2 := by
  induction h with
  | nil => exact .inl ⟨rfl, rfl⟩
  | @cons k' x a v xs vs ha hx _ ih =>
    unfold dget atKey
    rw [List.find?_cons, List.find?_cons]
    dsimp only
    by_cases q : k' = k
    · rw [decide_eq_true q]; exact .inr ⟨x, (a, v), rfl, rfl, hx⟩
    · rw [decide_eq_false q]; exact ih
theorem dget_isSome {K γ : Type} [DecidableEq K] (kv : List (K × γ)) (k : K) : (dget kv k).isSome = kv.any fun p => decide (p.1 = k) := by
  induction kv with
  | nil => rfl
  | cons p r ih =>
    unfold dget
    rw [List.find?_cons, List.any_cons]
    by_cases q : p.1 = k
    · rw [decide_eq_true q]; rfl
    · rw [decide_eq_false q, Bool.false_or]; exact ih
theorem TrisAre.append {f : PH} {kv kv' : List (List Int × AV)} {xs xs' : List (List Int × Addr × Value)} (h : TrisAre f kv xs) (h' : TrisAre f kv' xs') : TrisAre f (kv ++ kv') (xs ++ xs') := by
  induction h with
  | nil => exact h'
  | cons a b _ ih => exact .cons a b ih
theorem TrisAre.store {f : PH} {kv : List (List Int × AV)} {xs : List (List Int × Addr × Value)} (h : TrisAre f kv xs) {k : List Int} {x : AV} {a : Addr} {v : Value} (ha : Is f (.tup (k.map .int)) (.ref a)) (hx : Is f x v) : TrisAre f (dput kv k x) (storedH xs k a v) := by
  unfold dput storedH
  have e : (atKey xs k).isSome = kv.any fun p => decide (p.1 = k) := by
    rw [← dget_isSome]
    rcases h.at k with ⟨e, e'⟩ | ⟨_, _, e, e', _⟩ <;> rw [e, e'] <;> rfl
  rw [e]
  split
  · rename_i hq; clear hq e
    induction h with
    | nil => exact .nil
    | cons a b _ ih =>
      simp only [List.map_cons]
      unfold putAt
      dsimp only
      split
      · exact .cons a hx ih
      · exact .cons a b ih
  · exact h.append (.cons ha hx .nil)
theorem St.dicT {f : PH} {L : List Ent} {s : Shared} {a : Addr} {kv : List (List Int × AV)} {oe : Option Nat} (S : St C f L s) (h : Mine.dicT C.w a kv oe ∈ L) : (a == sysModules) = false ∧ ∃ xs, s.heap.DictOfH (tKind C.w) a xs ∧ TrisAre f kv xs := by
  obtain ⟨o, ho, h, xs, es, ep, h1, h2, h3, h4, h5, h6⟩ := S.get h
  exact ⟨h, xs, ⟨o, es, ep, ho, h1, h2, h3, h5.kinds S, h4⟩, h5⟩
theorem dicT_of {f : PH} {h : Heap} {a : Addr} {kv : List (List Int × AV)} {xs : List (List Int × Addr × Value)} (hs : (a == sysModules) = false) (hd : h.DictOfH (tKind C.w) a xs) (hp : TrisAre f kv xs) : ∃ o, h.get? a = some o ∧ (Mine.dicT C.w a kv none).P f o := by
  obtain ⟨o, es, ep, ho, h1, h2, h3, _, h5⟩ := hd
  exact ⟨o, ho, hs, xs, es, ep, h1, h2, h3, h5, hp, fun _ e => (nomatch e)⟩
theorem Is.tupRef {f : PH} {xs : List AV} {v : Value} (h : Is f (.tup xs) v) : ∃ a, v = .ref a := by cases h; exact ⟨_, rfl⟩
theorem si_dicT {a : Addr} {kv : List (List Int × AV)} {oe : Option Nat} {k : List Int} {ks : List AV} {x : AV} {Φ : Unit → List Ent → Prop} (r : Room A n) (U : Upd1 (dicT C.w a kv oe) (dicT C.w a (dput kv k x) none) l l') (hk : ks = k.map .int) (hz : kv.length ≤ 100000) (h : Φ () l') :
    W3 C A isEq l (.ref a) (.tup ks) x (fun o i v => setItem o i v) Φ := fun R f s v u w S hv hu hw => by
  subst hk
  obtain rfl := hv.refE
  obtain ⟨b, rfl⟩ := hu.tupRef
  obtain ⟨hs, xs, hd, hp⟩ := S.dicT (List.mem_append_left R U.mem)
  refine wpAny_setItem_heap (knd := tKind C.w) r.line1 (tupKey_of S hu) hd (fun h' hd' hb => ?_) (by rw [hp.length, sizeLine_eq]; omega)
  exact post (.refl f) ((S.upd U rfl hb (dicT_of hs hd' (hp.store hu hw)) rfl rfl rfl : St C f (l' ++ R) { s with heap := h' }).toks _) rfl h
theorem m_get_T {a : Addr} {kv : List (List Int × AV)} {oe : Option Nat} {k : List Int} {ks : List AV} {x : AV} {Φ : AV → List Ent → Prop} (r : Room A n) (hm : dicT C.w a kv oe ∈ l) (hk : ks = k.map .int) (h : Φ ((dget kv k).getD x) l) :
    Wn C A Is l [.ref a, .tup ks, x] (fun vs => call (.builtin "dict.get") vs) Φ := fun R f s vs S hv => by
  subst hk
  obtain ⟨_, u, w, rfl, h1, h2, h3⟩ := hv.three
  obtain rfl := h1.refE
  obtain ⟨b, rfl⟩ := h2.tupRef
  obtain ⟨hs, xs, hd, hp⟩ := S.dicT (List.mem_append_left R hm)
  refine call_meetsIn F.slot_dict_get hd.typeIs F.entry_dict_get (F.args_dict_get_3 _ _ _) (meetsH_dict_get_default (tKind C.w) a b hs w) ⟨r.line1, k, xs, tupKey_of S h2, hd, ?_⟩
  refine post (.refl f) (S.toks _) ?_ h
  rcases hp.at k with ⟨e, e'⟩ | ⟨x', p, e, e', hi⟩
  · rw [e, e']; exact h3
  · rw [e, e']; exact hi
theorem bty_T {C : Cx} {l : List Ent} {a : Addr} {kv : List (List Int × AV)} {oe : Option Nat} (hm : dicT C.w a kv oe ∈ l) : BTy l (.ref a) "dict" := .ent (e := dicT C.w a kv oe) (fun _ _ ⟨_, _, _, _, h, _⟩ => ⟨h.1, h.2.1⟩) hm
theorem bm_get : BM "dict" "get" "dict.get" := ⟨F.plainAttrs_dict, F.slot_dict_get, F.type_dict_get⟩
theorem ev_dict0T {pos : Pos} {Φ : AV → List Ent → Prop} (h : ∀ a, Φ (.ref a) (dicT C.w a [] none :: l)) : W C A l (eval (.Dict [] [] pos) env) Φ := fun R f s S =>
  wpAny_Dict_empty (post (.refl f) (S.push (e := dicT C.w s.heap.objs.size [] none) rfl ⟨S.low, [], #[], 0, ⟨rfl, rfl, rfl⟩, rfl, rfl, List.nodup_nil, .nil, fun _ e => (nomatch e)⟩ rfl rfl rfl rfl) (.ref _) (h _))
theorem Wr.epochT {α β : Type} {rel : PH → β → α → Prop} {a : Addr} {kv : List (List Int × AV)} {t : Sem α} {Φ : β → List Ent → Prop} {g : Nat → List Ent} (U : ∀ e, Upd1 (dicT C.w a kv none) (dicT C.w a kv (some e)) l (g e)) (h : ∀ e, Wr C A rel (g e) t Φ) : Wr C A rel l t Φ := fun R f s S => by
  obtain ⟨o, ho, hs, xs, es, ep, h1, h2, h3, h4, h5, h6⟩ := S.get (List.mem_append_left R (U 0).mem)
  exact h ep R f s (S.upd (U ep) rfl (Heap.SameBut.refl ..) ⟨o, ho, hs, xs, es, ep, h1, h2, h3, h4, h5, fun e q => by cases q; rfl⟩ rfl rfl rfl)
theorem Wr.unepochT {α β : Type} {rel : PH → β → α → Prop} {a : Addr} {kv : List (List Int × AV)} {oe : Option Nat} {t : Sem α} {Φ : β → List Ent → Prop} (U : Upd1 (dicT C.w a kv oe) (dicT C.w a kv none) l l') (h : Wr C A rel l' t Φ) : Wr C A rel l t Φ := fun R f s S => by
  obtain ⟨o, ho, hs, xs, es, ep, h1, h2, h3, h4, h5, h6⟩ := S.get (List.mem_append_left R U.mem)
  exact h R f s (S.upd U rfl (Heap.SameBut.refl ..) ⟨o, ho, hs, xs, es, ep, h1, h2, h3, h4, h5, fun _ q => (nomatch q)⟩ rfl rfl rfl)
theorem c2_dicT_ne_nil {a b : Addr} {kv : List (List Int × AV)} {oe : Option Nat} {Φ : AV → List Ent → Prop} (r : Room A n) (h1 : dicT C.w a kv oe ∈ l) (h2 : dicT C.w b [] none ∈ l) (h : Φ (.bool (decide (kv ≠ []))) l) :
    W2 C A Is l (.ref a) (.ref b) (compareOp .NotEq) Φ := fun R f s v u S hv hu => by
  obtain rfl := hv.refE
  obtain rfl := hu.refE
  obtain ⟨oa, hoa, hsa, xs, es, ep, a1, a2, a3, a4, a5, a6⟩ := S.get (List.mem_append_left R h1)
  obtain ⟨ob, hob, hsb, ys, es', ep', b1, b2, b3, b4, b5, b6⟩ := S.get (List.mem_append_left R h2)
  have e0 : ys = [] := by cases b5; rfl
  subst e0
  have ta : s.TypeIs (.ref a) "dict" := ⟨oa, hoa, a1.1⟩
  have tb : s.TypeIs (.ref b) "dict" := ⟨ob, hob, b1.1⟩
  have hse : es.size = kv.length := by rw [size_of_entries a3, a5.length]
  have hse' : es'.size = 0 := by rw [size_of_entries b3]; rfl
  refine wpAny_richCompare_same_room (op := .NotEq) ta tb PySem.F.slot_dict_ne (wpAny_call_entry PySem.F.slot_dict_ne ta PySem.F.entry_dict_ne ?_ (PySem.F.args_dict_ne_2 _ _)) r.line
  show wpAny _ _ (Builtin.Dict.dictSlotArgs "__ne__" ⟨[.ref a, .ref b], []⟩ >>= _) _ _ s
  refine wpAny_bind ?_
  unfold Builtin.Dict.dictSlotArgs
  refine wpAny_bind (wpAny_notOrdered_dict ta ?_)
  show wpAny _ _ (pure (Value.ref a, Value.ref b)) _ _ s
  refine wpAny_pure ?_
  refine wpAny_bind (wpAny_isInstance (T := "dict") tb PySem.F.sub_dict_dict ?_)
  simp only [Bool.not_true, Bool.false_eq_true, if_false]
  refine wpAny_bind (wpAny_pure (wpAny_bind (wpAny_pure ?_)))
  have fin : ∀ c : Bool, c = decide (kv ≠ []) → wpAny C.M A.in1 (ret (.bool c)) (fun fin s' => ∃ r, fin = Fin.done (.ret r) ∧ (r ≠ .notImplemented) ∧ Post C Is f R Φ r s') NoE s := fun c hc => by
    subst hc
    exact wpAny_pure ⟨_, rfl, (fun x => nomatch x), post (.refl f) S (.bool _) h⟩
  unfold Builtin.Dict.samePairs Builtin.Dict.showsAll
  rw [if_neg (show ¬ (a == sysModules) = true by rw [hsa]; exact Bool.false_ne_true), if_neg (show ¬ (b == sysModules) = true by rw [hsb]; exact Bool.false_ne_true)]
  refine wpAny_bind (wpAny_bind (wpAny_pure (wpAny_bind (wpAny_pure ?_))))
  refine wpAny_bind (wpAny_dictEntries hoa a2 ?_)
  dsimp only
  refine wpAny_bind (wpAny_dictEntries hob b2 ?_)
  rw [hse, hse']
  by_cases hx : kv = []
  · subst hx
    rw [if_neg (by simp)]
    refine wpAny_bind (wpAny_dictEpoch hoa a2 ?_)
    refine wpAny_bind ?_
    rw [Std.Legacy.Range.forIn_eq_forIn_range']
    exact wpAny_pure (wpAny_pure (fin (!true) rfl))
  · have : kv.length ≠ 0 := fun q => hx (List.length_eq_zero_iff.mp q)
    rw [if_pos (by simpa using hx)]
    exact wpAny_bind (wpAny_rule (wpAny_pure (fin (!false) (by simpa using hx))))
theorem b_max_dict {a : Addr} {kv : List (Int × AV)} {oe : Option Nat} {Φ : AV → List Ent → Prop} (r : Room A n) (hm : dicI C a kv oe ∈ l) (hne : kv ≠ []) (h : ∀ m, m ∈ kv.map (·.1) → (∀ i ∈ kv.map (·.1), i ≤ m) → Φ (.int m) l) : Wn C A Is l [.ref a] (fun vs => call (.builtin "max") vs) Φ := fun R f s vs S hv => by
  obtain ⟨_, rfl, h1⟩ := hv.one
  obtain rfl := h1.refE
  obtain ⟨hs, kvs, hd, hp, _⟩ := S.dic (List.mem_append_left R hm)
  obtain ⟨ep, hda⟩ := hd.dictAt
  have hl := hp.length
  have hpos : 0 < kvs.length := by rw [hl]; exact List.length_pos_iff.mpr hne
  have hlt : a < s.heap.objs.size := hda.lt_size
  refine call_max_walk (wpAny_pyIter_dict hs hda ?_)
  refine ⟨_, _, _, _, _, _, _, rfl, Walks.dictKeys (A := A.in1) (knd := intKind prg C.w) r.handled s.heap.objs.size a (Nat.ne_of_lt hlt) kvs ep, ⟨⟨_, Heap.get?_push_size _ rfl, rfl, rfl⟩, hda.push _⟩, fun b hb => ?_, hpos,
    CmpOf.ints_gt (fun i => ((kvs[i]?).map (·.1)).getD 0) (fun i v hv => ?_), fun v h' tk hP hk => ?_⟩
  · show b < (s.heap.push _).objs.size
    rw [Heap.size_push]
    rcases List.mem_cons.mp hb with rfl | hb
    · exact Nat.lt_succ_self _
    · rcases List.mem_cons.mp hb with rfl | hb
      · exact Nat.lt_succ_of_lt hlt
      · cases hb
  · obtain ⟨k, x, hx, hi⟩ := hv
    obtain ⟨t, rfl⟩ := isInt hi
    exact ⟨t, by rw [hx]; rfl⟩
  · obtain ⟨k, x, hx, hi⟩ := hP
    obtain ⟨t, rfl⟩ := isInt hi
    obtain ⟨b1, b2⟩ := argBest_gt (fun i => ((kvs[i]?).map (·.1)).getD 0) (kvs.length - 1)
    rw [hx] at b2
    refine post (.refl f) (S.grow (fun b o e => ?_) rfl rfl) (.int _ _) (h k ?_ fun i hi => ?_)
    · refine hk b o (fun hm => ?_) (Heap.get?_push_of_some _ e)
      rw [List.mem_singleton] at hm
      exact absurd (hm ▸ Heap.lt_size e) (Nat.lt_irrefl _)
    · rw [← hp.keys]; exact List.mem_map.mpr ⟨_, List.mem_of_getElem? hx, rfl⟩
    · rw [← hp.keys] at hi
      obtain ⟨p, hp', rfl⟩ := List.mem_map.mp hi
      obtain ⟨j, hj⟩ := List.mem_iff_getElem?.mp hp'
      have hjl := (List.getElem?_eq_some_iff.mp hj).1
      have := b2 j (by omega)
      rw [hj] at this
      exact this
end
end Mine
end
section
open PySem PySem.W PySem.Calls PyProof.Rows
namespace Mine
section
variable {C : Cx} {A : Around} {n : Nat} {l l' : List Ent} {env : Env}
theorem ex_while {test : Expr} {body rest : List Stmt} {pos : Pos} {Φ : AF → List Ent → Prop} (Inv : Nat → List Ent → Prop) (m0 : Nat) (h0 : Inv m0 l)
    (turn : ∀ m l, Inv m l → WB C A l (isTrue test env (eval test env)) fun b l₁ => (b = true → WF C A l₁ (execs body env) fun fl l₂ => fl = .next ∧ ∃ k, k < m ∧ Inv k l₂) ∧ (b = false → WF C A l₁ (execs rest env) Φ)) :
    WF C A l (execs (.While test body [] pos :: rest) env) Φ := by
  refine ex_cons fun R f s S => wpAny_While ?_
  refine codeAny_whileLoop (fun m s => ∃ l' f', Sub f f' ∧ Inv m l' ∧ St C f' (l' ++ R) s) ?_ m0 ⟨l, f, .refl f, h0, S⟩
  rintro m s ⟨l', f', a, inv, S'⟩
  refine wpAny_mono (turn m l' inv _ _ _ S') (fun b s₂ p => ?_) fun _ _ e => e.elim
  obtain ⟨f₂, b', l₂, a₂, S₂, rfl, k₁, k₂⟩ := p
  cases b' with
  | true =>
    rw [if_pos rfl]
    refine wpAny_mono (k₁ rfl _ _ _ S₂) (fun fl s₃ q => ?_) fun _ _ e => e.elim
    obtain ⟨f₃, af, l₃, a₃, S₃, r₃, rfl, j, hj, inv'⟩ := q
    cases r₃
    exact ⟨j, hj, l₃, f₃, (a.trans a₂).trans a₃, inv', S₃⟩
  | false =>
    rw [if_neg (by decide)]
    exact wpAny_execs_nil ⟨f₂, .next, l₂, a.trans a₂, S₂, .next, fun _ => k₂ rfl, fun q => (q rfl).elim⟩
noncomputable abbrev WT (C : Cx) (A : Around) (l : List Ent) (xs : List AV) (t : List Value → Sem Unit) (Φ : Unit → List Ent → Prop) : Prop := Wn C A isEq l xs t Φ
theorem in_nil {Φ : Unit → List Ent → Prop} {ts : List (Value → Sem Unit)} (h : Φ () l) : WT C A l [] (assignInOrder ts) Φ := fun R f s vs S hv => by
  cases hv
  cases ts <;> exact wpAny_pure (post (.refl f) S rfl h)
noncomputable abbrev InsP (C : Cx) (A : Around) (xs : List AV) (ts : List (Value → Sem Unit)) (Φ : Unit → List Ent → Prop) : Unit → List Ent → Prop := fun _ l => WT C A l xs (assignInOrder ts) Φ
noncomputable abbrev SetT3 (C : Cx) (A : Around) (x v : AV) (Φ : Unit → List Ent → Prop) : AV → List Ent → Prop := fun y l => W3 C A isEq l x y v (fun o i v => setItem o i v) Φ
noncomputable abbrev SetT2 (C : Cx) (A : Around) (env : Env) (i : Expr) (v : AV) (Φ : Unit → List Ent → Prop) : AV → List Ent → Prop := fun x l => W C A l (eval i env) (SetT3 C A x v Φ)
noncomputable abbrev TupT (C : Cx) (A : Around) (env : Env) (elts : List Expr) (k : Nat) (tpos : Pos) (rest : List Stmt) (Φ : AF → List Ent → Prop) : AV → List Ent → Prop := fun v l => W1 C A isEq l v (fun u => assign (.Tuple elts k tpos) env u) (RestP C A env rest Φ)
theorem in_cons {x : AV} {xs : List AV} {t : Value → Sem Unit} {ts : List (Value → Sem Unit)} {Φ : Unit → List Ent → Prop} (h : W1 C A isEq l x t (InsP C A xs ts Φ)) : WT C A l (x :: xs) (assignInOrder (t :: ts)) Φ := fun R f s vs S hv => by
  cases hv with
  | cons hx hr =>
    refine wpAny_bind (wpAny_holding ?_)
    exact h.run S hx fun f₁ _ l₁ _ s₁ a₁ S₁ _ k₁ => wp_up a₁ (k₁ _ _ _ _ S₁ (hr.mono a₁))
theorem as_name {x : Str} {p : Pos} {v : AV} {Φ : Unit → List Ent → Prop} (h : W1 C A isEq l v (storeName env x) Φ) : W1 C A isEq l v (fun u => assign (.Name x p) env u) Φ := fun R f s u S hu => wpAny_assign_Name (h _ _ _ _ S hu)
theorem as_bind {x : Str} {v : AV} {Φ : Unit → List Ent → Prop} (h : W1 C A isEq l v (storeName env x) Φ) : W1 C A isEq l v (fun u => bindName env x u) Φ := fun R f s u S hu => wpAny_bindName (h _ _ _ _ S hu)
theorem as_sub {o i : Expr} {p : Pos} {v : AV} {Φ : Unit → List Ent → Prop} (h : W C A l (eval o env) (SetT2 C A env i v Φ)) : W1 C A isEq l v (fun u => assign (.Subscript o i p) env u) Φ := fun R f s u S hu => by
  show wpAny C.M A (assign (.Subscript o i p) env u) _ _ s
  rw [assign_Subscript]
  refine wpAny_bind (wpAny_holding (h.run S fun f₁ x l₁ ov s₁ a₁ S₁ r₁ k₁ => ?_))
  refine wpAny_bind (wpAny_holding (k₁.run S₁ fun f₂ y l₂ iv s₂ a₂ S₂ r₂ k₂ => ?_))
  refine wpAny_bind (wpAny_standAt (wpAny_bind (wpAny_holding (wpAny_mono (k₂ _ _ _ _ _ _ S₂ (r₁.mono a₂) r₂ (hu.mono (a₁.trans a₂))) (fun _ s₃ p₃ => ?_) fun _ _ e => e))))
  obtain ⟨f₃, _, l₃, a₃, S₃, r₃, k₃⟩ := p₃
  exact wpAny_release (post ((a₁.trans a₂).trans a₃) S₃ r₃ k₃)
theorem as_tup {elts : List Expr} {k : Nat} {p : Pos} {xs : List AV} {Φ : Unit → List Ent → Prop} (r : Room A n) (h : WT C A l xs (assignInOrder ((assignEach elts env).map (·.2))) Φ)
    (hn : (assignEach elts env).length = xs.length := by rfl) (hstar : (assignEach elts env).findIdx? (·.1) = none := by rfl) : W1 C A isEq l (.tup xs) (fun u => assign (.Tuple elts k p) env u) Φ := fun R f s u S hu => by
  obtain ⟨a, vs, m, rfl, ho, hi⟩ := hu.tupE
  refine wpAny_assign_Tuple r.handled ⟨_, S.live _ _ ho, rfl, m, rfl⟩ (by rw [hn, ← hi.length]; simp) hstar fun h' hb => ?_
  refine h _ _ _ _ ?_ hi
  exact S.grow (fun b o e => hb b o (Nat.ne_of_lt (Heap.lt_size e)) e) rfl rfl
theorem ex_tup {elts : List Expr} {k : Nat} {tpos pos : Pos} {value : Expr} {rest : List Stmt} {Φ : AF → List Ent → Prop}
    (h : W C A l (eval value env) (TupT C A env elts k tpos rest Φ))
    (hw : swappedStores [.Tuple elts k tpos] value env = pure none) (hs : swapsWithSole [.Tuple elts k tpos] value pos.line env = pure false := by rfl) : WF C A l (execs (.Assign [.Tuple elts k tpos] value pos :: rest) env) Φ :=
  ex_seq fun _ _ _ S => Assign_Tuple (h.run S fun _ _ _ _ _ a₁ S₁ r₁ k₁ => k₁.run S₁ r₁ fun _ _ _ _ _ a₂ S₂ _ k₂ => post (a₁.trans a₂) S₂ .next ⟨rfl, k₂⟩) hs hw
theorem ex_swap {elts : List Expr} {k : Nat} {tpos pos : Pos} {value : Expr} {names : List Str} {rest : List Stmt} {Φ : AF → List Ent → Prop} (r : Room A n)
    (h : W C A l (eval value env) fun v l₁ => ∃ xs, v = .tup xs ∧ xs.length = names.length ∧ WT C A l₁ xs.reverse (assignInOrder (names.reverse.map fun n => bindName env n)) fun _ l₂ => WF C A l₂ (execs rest env) Φ)
    (hw : swappedStores [.Tuple elts k tpos] value env = pure (some names)) (hs : swapsWithSole [.Tuple elts k tpos] value pos.line env = pure false := by rfl) : WF C A l (execs (.Assign [.Tuple elts k tpos] value pos :: rest) env) Φ :=
  ex_seq fun R f s S => Assign_Tuple_swapped (h.run S fun f₁ v l₁ u s₁ a₁ S₁ r₁ k₁ => by
    obtain ⟨xs, rfl, hl, k⟩ := k₁
    obtain ⟨a, vs, m, rfl, ho, hi⟩ := r₁.tupE
    have e : names.length = vs.toArray.size := by rw [← hl, ← hi.length]; simp
    rw [e]
    refine wpAny_unpackItems_tuple r.handled ⟨_, S₁.live _ _ ho, rfl, m, rfl⟩ fun h' hb => ?_
    have S₂ : St C f₁ (l₁ ++ R) { s₁ with heap := h' } := S₁.grow (fun b o e => hb b o (Nat.ne_of_lt (Heap.lt_size e)) e) rfl rfl
    exact wpAny_mono (k _ _ _ _ S₂ hi.reverse) (fun _ _ ⟨_, _, _, a₂, S₃, _, k₃⟩ => post (a₁.trans a₂) S₃ .next ⟨rfl, k₃⟩) fun _ _ e => e) hs hw
theorem entry_upd_loop : entryFor table "dict.update.loop" = some Builtin.«dict.update.loop» := entryFor_of_tree (by kernel_rfl)
theorem plain_upd_loop : plainId "dict.update.loop" = true := by decide +kernel
theorem list_keys : typeLookup (.type "list") "keys" = pure none := by rw [typeLookup_type, builtinLookup_eq_fast]; kernel_rfl
set_option maxHeartbeats 2000000 in
theorem miss_keys {prog : Program} {w : World} {B : Around} {E : Value → Shared → Prop} {s : Shared} {a : Addr} {xs : Array Value} {k : Nat} {sl : Array (Option Value)} {Q : Option Value → Shared → Prop}
    (hx : s.heap.get? a = some { cls := .type "list", dict := none, data := .seq xs k, slots := sl }) (hA : B.handled = none)
    (h : ∀ h' tk, (∀ b o, s.heap.get? b = some o → h'.get? b = some o) → Q none { s with heap := h', toks := tk }) : wpAny (model prog w) B (getAttr? (.ref a) "keys") Q E s := by
  obtain ⟨hp, g, d, tk, os⟩ := s
  have hT : ∀ tk', (⟨hp, g, d, tk', os⟩ : Shared).TypeIs (.ref a) "list" := fun _ => ⟨_, hx, rfl⟩
  have f1 := sub_AttributeError
  have f3 := F.slot_list_getattribute.lookup
  have f4 := F.slot_list_getattribute.bind (.ref a)
  have f5 := am_list_getattr_none
  unfold getAttr? getAttrBy? getAttrBy
  repeat (any_goals (first | assumption | exact hT _ | ((with_reducible show wpAny _ _ (call (Value.builtin "list.__getattribute__") _ _) _ _ _); refine call_meets F.slot_list_getattribute (hT _) am_entry_list_getattribute (F.args_list_getattribute_2 _ _) (meets_getattribute_miss_list a xs k sl "keys" _ list_keys (by decide) (by rw [sizeLine_eq]; decide)) ⟨hx, hA, fun h' tk' e hx' => ?_⟩) | wp_step))
  have hx'' := hx'
  obtain ⟨t', u', he⟩ := hx'.there
  show wpAny _ _ (getattributeRaised _ _ _ _ _ _ _) _ _ _
  unfold getattributeRaised
  repeat (any_goals (first | assumption | wp_step))
  exact h _ _ hx''.1
noncomputable abbrev prsA (kv : List (Int × AV)) : List AV := kv.map fun p => .tup [.int p.1, p.2]
theorem dput_new {K γ : Type} [DecidableEq K] {kv : List (K × γ)} {k : K} {v : γ} (h : k ∉ kv.map (·.1)) : dput kv k v = kv ++ [(k, v)] := by
  unfold dput
  rw [if_neg]
  intro q
  obtain ⟨p, hp, e⟩ := List.any_eq_true.mp q
  exact h (List.mem_map.mpr ⟨p, hp, of_decide_eq_true e⟩)
theorem upd_loop {B : Around} {kv : List (Int × AV)} {a d it : Addr} {ie : Nat → Ent} {L R : List Ent} {Rr : Result → Shared → Prop} (I : Iter C B.in1 (prsA kv) (fun l => lst a (prsA kv) ∈ l) it ie) (hm : lst a (prsA kv) ∈ L) (hn : (kv.map (·.1)).Nodup) (hz : kv.length ≤ 100000) {f₀ : PH}
    (hR : ∀ f s, Sub f₀ f → St C f ((dicI C d kv none :: L) ++ R) s → Rr (.ok (.ret .none)) s) :
    ∀ (k i : Nat) (f : PH) (s : Shared), kv.length - i = k → i ≤ kv.length → Sub f₀ f → St C f ((dicI C d (kv.take i) none :: L) ++ ie i :: R) s → codeAny C.M B (.builtin "dict.update.loop" ⟨[.ref d, .ref it, rawInt i, .none], []⟩) Rr s := by
  intro k
  induction k with
  | zero =>
    intro i f s hk hi hs S
    have hik : i = kv.length := by omega
    subst hik
    refine codeAny_builtin entry_upd_loop ?_
    rw [Around.under_plainId plain_upd_loop _]
    show wpAny _ B.in1 (pyNext (.ref it) >>= _) _ _ s
    refine wpAny_bind (I.fin (l := dicI C d (kv.take kv.length) none :: L) (.tail _ hm) (by rw [show (prsA kv).length = kv.length from List.length_map ..]; exact S) fun s' S' => ?_) |> fun z => wpAny_mono z (fun _ _ q => q) fun _ _ e => e.elim
    show wpAny _ B.in1 (Builtin.Dict.addKeywords d [] >>= _) _ _ s'
    rw [List.take_length] at S'
    exact wpAny_bind (wpAny_pure (wpAny_pure (hR f s' hs S')))
  | succ k ih =>
    intro i f s hk hi hs S
    have hlt : i < kv.length := by omega
    refine codeAny_builtin entry_upd_loop ?_
    rw [Around.under_plainId plain_upd_loop _]
    show wpAny _ B.in1 (pyNext (.ref it) >>= _) _ _ s
    have hy : (prsA kv)[i]? = some (.tup [.int kv[i].1, kv[i].2]) := by rw [List.getElem?_map, List.getElem?_eq_getElem hlt]; rfl
    refine wpAny_bind (I.item (l := dicI C d (kv.take i) none :: L) hy (.tail _ hm) S fun v f' s' a' hv S' => ?_) |> fun z => wpAny_mono z (fun _ _ q => q) fun _ _ e => e.elim
    obtain ⟨t, vs, m, rfl, ho, hi'⟩ := hv.tupE
    obtain ⟨x, y, rfl, hx, hy'⟩ := hi'.two
    obtain ⟨tk, rfl⟩ := hx.intE
    have hT : s'.TypeIs (.ref t) "tuple" := ⟨_, S'.live _ _ ho, rfl⟩
    refine wpAny_bind (wpAny_holding (wpAny_bind ?_))
    refine wpAny_tryCatch ?_
    unfold Builtin.Dict.pairItems
    refine wpAny_bind (wpAny_typeOf hT ?_)
    rw [if_pos (by decide)]
    refine wpAny_bind (wpAny_seqItems (S'.live _ _ ho) rfl (wpAny_pure ?_))
    show wpAny _ B.in1 (holding _ (dictSet d (.int kv[i].1 tk) y)) _ _ s'
    obtain ⟨hsys, kvs, hd, hp, hnn⟩ := S'.dic (a := d) (kv := kv.take i) (knd := intKind prg C.w) (.head _)
    refine wpAny_holding (wpAny_dictSet_pairs (intKind_is ..) hd (fun h' hd' hb => ?_) (by rw [hp.length, sizeLine_eq, List.length_take]; omega))
    have hnew : kv[i].1 ∉ (kv.take i).map (·.1) := fun hmem => by
      obtain ⟨p, hp', e⟩ := List.mem_map.mp hmem
      obtain ⟨j, hj, hjp⟩ := List.mem_iff_getElem.mp hp'
      rw [List.length_take] at hj
      rw [List.getElem_take] at hjp
      have h1 : (kv.map (·.1))[j]? = (kv.map (·.1))[i]? := by rw [List.getElem?_map, List.getElem?_map, List.getElem?_eq_getElem hlt, List.getElem?_eq_getElem (show j < kv.length by omega), hjp, Option.map_some, Option.map_some, e]
      have := (List.getElem?_inj (by rw [List.length_map]; omega) hn).mp h1
      omega
    have e : dput (kv.take i) kv[i].1 kv[i].2 = kv.take (i + 1) := by rw [dput_new hnew, List.take_add_one, List.getElem?_eq_getElem hlt]; rfl
    have S'' : St C f' ((dicI C d (kv.take (i + 1)) none :: L) ++ ie (i + 1) :: R) { s' with heap := h' } := S'.upd (e := dicI C d (kv.take i) none) (e' := dicI C d (kv.take (i + 1)) none) (l := dicI C d (kv.take i) none :: L) .head rfl hb (dic_of hsys hd' (by rw [← e]; exact hp.store hy')) rfl rfl rfl
    exact wpAny_pure ⟨plainId_quiet plain_upd_loop _, ih (i + 1) f' _ (by omega) (by omega) (hs.trans a') (S''.toks _)⟩
theorem t_dict_pairs {a : Addr} {kv : List (Int × AV)} {Φ : AV → List Ent → Prop} (r : Room A n) (hm : lst a (prsA kv) ∈ l) (hn : (kv.map (·.1)).Nodup) (hz : kv.length ≤ 100000) (h : ∀ b, Φ (.ref b) (dicI C b kv none :: l)) : Wn C A Is l [.ref a] (fun vs => call (.type "dict") vs) Φ := fun R f s vs S hv => by
  obtain ⟨_, rfl, h1⟩ := hv.one
  obtain rfl := h1.refE
  refine callType_codes (Q₁ := fun obj s₁ => obj = .ref s.heap.objs.size ∧ s₁ = { s with heap := s.heap.push { cls := .type "dict", data := .dict #[] } }) F.kt_called_dict (F.kt_typeCall_dict_1 _) F.entry_dict_init (kt_code_dict_new _ ⟨rfl, rfl⟩) ?_
  rintro obj s₁ ⟨rfl, rfl⟩
  have hnew : (s.heap.push { cls := .type "dict", data := .dict #[] }).DictOf (intKind prg C.w) s.heap.objs.size [] := Heap.DictOf.new s.heap
  have S1 : St C f ((dicI C s.heap.objs.size [] none :: l) ++ R) { s with heap := s.heap.push { cls := .type "dict", data := .dict #[] } } :=
    S.push (e := dicI C s.heap.objs.size [] none) rfl ⟨S.low, [], #[], 0, ⟨rfl, rfl, rfl⟩, rfl, (fun e he => by simp at he), .nil, List.nodup_nil, .nil, fun _ e => (nomatch e)⟩ rfl rfl rfl rfl
  generalize s.heap.objs.size = d at hnew S1 ⊢
  generalize s.heap.push { cls := .type "dict", data := .dict #[] } = hp at hnew S1 ⊢
  have hdT : ({ s with heap := hp } : Shared).TypeIs (.ref d) "dict" := Heap.DictOf.typeIs (s := { s with heap := hp }) hnew
  refine ⟨hdT, F.args_dict_init_2 _ _, ?_⟩
  unfold Builtin.«dict.__init__»
  refine wpAny_bind ?_
  unfold Builtin.Dict.selfAndRest
  refine wpAny_bind (wpAny_notOrdered_dict hdT ?_)
  show wpAny _ _ (pure (d, [Value.ref a])) _ _ _
  refine wpAny_pure ?_
  show wpAny _ _ (Builtin.Dict.updateFrom "dict.__init__" d (.ref a) [] .none) _ _ _
  unfold Builtin.Dict.updateFrom
  have hm1 : lst a (prsA kv) ∈ (dicI C d [] none :: l) ++ R := List.mem_append_left R (List.mem_cons_of_mem _ hm)
  obtain ⟨ws, m, hl, hi⟩ := S1.isL hm1
  refine wpAny_bind (wpAny_typeOf (s := { s with heap := hp }) ⟨_, hl, rfl⟩ ?_)
  rw [if_pos (by decide)]
  refine wpAny_bind (miss_keys (s := { s with heap := hp }) hl r.handled fun h' tk hk => ?_)
  have S2 : St C f ((dicI C d [] none :: l) ++ R) { s with heap := h', toks := tk } := S1.grow hk rfl rfl
  rw [if_pos (show (none : Option Value).isNone = true from rfl)]
  refine wpAny_bind (wpAny_rule (wpAny_bind ?_))
  obtain ⟨ws', m', hl', hi'⟩ := S2.isL hm1
  refine wpAny_pyIter_list hl'.isList ?_
  refine wpAny_pure ⟨plainId_quiet plain_upd_loop _, ?_⟩
  have S3 := S2.pushMid (s' := { s with heap := h'.push { cls := .type "list_iterator", data := .fields #[.ref a, .int 0 0] }, toks := tk }) (l := dicI C d [] none :: l) (R := R)
    (e := ⟨h'.objs.size, fun _ o => o.cls = .type "list_iterator" ∧ o.data = .fields #[.ref a, .int 0 0], fun _ h => h⟩) (o := { cls := .type "list_iterator", data := .fields #[.ref a, .int 0 0] }) rfl ⟨rfl, rfl⟩ rfl rfl rfl rfl
  have hne : h'.objs.size ≠ a := Nat.ne_of_gt (Heap.lt_size hl')
  have I := it_list (C := C) (A := A.in1.in1) r.handled h'.objs.size a (prsA kv)
  have S4 : St C f ((dicI C d (kv.take 0) none :: l) ++ (⟨h'.objs.size, fun _ o => o.cls = .type "list_iterator" ∧ o.data = .fields #[.ref a, .int ((0 : Nat) : Int) 0], fun _ h => h⟩ : Ent) :: R) { s with heap := h'.push { cls := .type "list_iterator", data := .fields #[.ref a, .int 0 0] }, toks := tk } := by
    rw [List.take_zero]; exact S3
  exact upd_loop (B := A.in1) I hm hn hz (Rr := wants (fun r s₂ => r = .none ∧ Post C Is f R Φ (.ref d) s₂) NoE) (fun f' s' a' S' => ⟨rfl, post a' S' (.ref _) (h d)⟩) kv.length 0 f _ (by omega) (Nat.zero_le _) (.refl f) S4
end
end Mine
end
section
open PySem PySem.W PySem.Calls PyProof.Rows
namespace Mine
noncomputable def EqD (s : Shared) (n : Nat) (v y : Value) : Prop := ∀ A : Around, A.units + n < cLine → SeqAt.EqAt A s v y true
theorem EqD.le {s : Shared} {n m : Nat} {v y : Value} (h : EqD s n v y) (hn : n ≤ m) : EqD s m v y := fun A hu => h A (by omega)
theorem all_true {n : Nat} : (List.range n).all (fun _ => true) = true := by simp
theorem arr_at {vs : List Value} {j : Nat} {u : Value} (h : vs[j]? = some u) (q : j < vs.toArray.size) : vs.toArray[j] = u := by
  have h2 := List.getElem?_eq_getElem (l := vs) (i := j) (by simpa using q)
  rw [h] at h2
  rw [List.getElem_toArray]
  exact (Option.some.inj h2).symm
section
variable {C : Cx} {A : Around} {n : Nat} {l l' : List Ent} {env : Env} {f : PH} {s : Shared}
theorem eqd_int {i : Int} {v y : Value} (h : Is f (.int i) v) (k : Is f (.int i) y) : EqD s 0 v y := fun A _ => by
  obtain ⟨t, rfl⟩ := h.intE
  obtain ⟨u, rfl⟩ := k.intE
  have := SeqAt.EqAt.int_int (A := A) (s := s) i t i u
  rwa [beq_self_eq_true] at this
theorem eqd_list {a b : Addr} {ws us : Array Value} {m k : Nat} (h1 : IsL s.heap a ws m) (h2 : IsL s.heap b us k) (hz : ws.size = us.size) (he : ∀ j (h1 : j < ws.size) (h2 : j < us.size), EqD s n ws[j] us[j]) : EqD s (n + 1) (.ref a) (.ref b) := fun A hu => by
  by_cases hab : a = b
  · subst hab; exact SeqAt.EqAt.same _
  · have := SeqAt.RcAt.lists (A := A) (s := s) (e := fun _ => true) h1.isList h2.isList hz (by omega) (fun j q1 q2 => he j q1 q2 A.in1 (by show A.units + 1 + n < cLine; omega))
    rw [all_true] at this
    exact SeqAt.EqAt.of_refs hab this
theorem eqd_tup {xs ys : List AV} {v y : Value} {L : List Ent} (S : St C f L s) (hv : Is f (.tup xs) v) (hy : Is f (.tup ys) y) (hl : xs.length = ys.length) (he : ∀ (j : Nat) (x z : AV) (u w : Value), xs[j]? = some x → ys[j]? = some z → Is f x u → Is f z w → EqD s n u w) : EqD s (n + 1) v y := fun A hu => by
  obtain ⟨a, vs, m, rfl, ho, hi⟩ := hv.tupE
  obtain ⟨b, us, k, rfl, ho', hi'⟩ := hy.tupE
  by_cases hab : a = b
  · subst hab; exact SeqAt.EqAt.same _
  · have e1 := hi.length
    have e2 := hi'.length
    have := SeqAt.RcAt.tuples (A := A) (s := s) (e := fun _ => true) (items := vs.toArray) (items2 := us.toArray) ⟨_, S.live _ _ ho, rfl, m, rfl⟩ ⟨_, S.live _ _ ho', rfl, k, rfl⟩ (by omega) (fun j q1 q2 => by
      have q1' : j < xs.length := by rw [← e1]; simpa using q1
      have q2' : j < ys.length := by omega
      obtain ⟨u, hu', hiu⟩ := hi.get (List.getElem?_eq_getElem q1')
      obtain ⟨w, hw', hiw⟩ := hi'.get (List.getElem?_eq_getElem q2')
      have g1 : vs.toArray[j] = u := arr_at hu' q1
      have g2 : us.toArray[j] = w := arr_at hw' q2
      rw [g1, g2]
      exact he j _ _ u w (List.getElem?_eq_getElem q1') (List.getElem?_eq_getElem q2') hiu hiw A.in1 (by show A.units + 1 + n < cLine; omega))
    rw [all_true, Bool.true_and, show (vs.toArray.size == us.toArray.size) = true by simp; omega] at this
    exact SeqAt.EqAt.of_refs hab this
theorem pairs_any {p p' : Program} {w w' : World} {es : List DictEntry} {kvs : List (Int × Value)} (h : Pairs (intKind p w) es kvs) : Pairs (intKind p' w') es kvs := by
  induction h with
  | nil => exact .nil
  | cons a b _ ih => exact .cons a b ih
theorem dictOf_any {p p' : Program} {w w' : World} {h : Heap} {a : Addr} {kvs : List (Int × Value)} (d : h.DictOf (intKind p w) a kvs) : h.DictOf (intKind p' w') a kvs := by
  obtain ⟨o, es, ep, ho, h1, h2, h3, h4, h5⟩ := d
  exact ⟨o, es, ep, ho, h1, h2, h3, pairs_any h4, h5⟩
theorem eqd_dict {a b : Addr} {ka kb : List (Int × AV)} {oe oe' : Option Nat} {L : List Ent} (S : St C f L s) (h1 : dicI C a ka oe ∈ L) (h2 : dicI C b kb oe' ∈ L) (hl : ka.length = kb.length) (he : ∀ k x, (k, x) ∈ ka → ∃ z, dget kb k = some z ∧ ∀ u w, Is f x u → Is f z w → EqD s n u w) : EqD s (n + 1) (.ref a) (.ref b) := fun A hu => by
  by_cases hab : a = b
  · subst hab; exact SeqAt.EqAt.same _
  · obtain ⟨hs, kvs, hd, hp, hn⟩ := S.dic h1
    obtain ⟨hs', kvs', hd', hp', hn'⟩ := S.dic h2
    refine SeqAt.EqAt.of_refs hab fun prog w E Q hQ => ?_
    have hda : s.heap.DictOf (intKind prog w) a kvs := dictOf_any hd
    have hdb : s.heap.DictOf (intKind prog w) b kvs' := dictOf_any hd'
    refine keq_eq (r := true) hs hs' hda hdb (by omega) (fun _ => ?_) ?_
    · have key : ∀ (r : List (Int × AV)) (rs : List (Int × Value)), PairsAre f r rs → (∀ p ∈ r, p ∈ ka) → KeqHits A.in1 s kvs' rs true := by
        intro r rs hr
        induction hr with
        | nil => intro _; exact .nil
        | @cons k x v xs vs hx _ ih =>
          intro hsub
          obtain ⟨z, hz, hz'⟩ := he k x (hsub _ (.head _))
          rcases hp'.at k with ⟨e, _⟩ | ⟨z', w', e, hw', hi⟩
          · rw [hz] at e; cases e
          · rw [hz] at e; cases e
            have := KeqHits.hit (e := true) hw' (hz' v w' hx hi A.in1 (by show A.units + 1 + n < cLine; omega)) (ih fun p hp => hsub p (.tail _ hp))
            exact this
      exact key ka kvs hp fun _ h => h
    · rw [hp.length, hp'.length, hl, beq_self_eq_true]; exact hQ
theorem c2_ne_tup {xs ys : List AV} {Φ : AV → List Ent → Prop} (r : Room A n) (hl : xs.length = ys.length) (he : ∀ f s R, St C f (l ++ R) s → ∀ (j : Nat) (x z : AV) (u w : Value), xs[j]? = some x → ys[j]? = some z → Is f x u → Is f z w → EqD s 100 u w) (h : Φ (.bool false) l) :
    W2 C A Is l (.tup xs) (.tup ys) (compareOp .NotEq) Φ := fun R f s v y S hv hy => by
  obtain ⟨a, vs, m, rfl, ho, hi⟩ := hv.tupE
  obtain ⟨b, us, k, rfl, ho', hi'⟩ := hy.tupE
  have e1 := hi.length
  have e2 := hi'.length
  have hu : A.units + 200 < cLine := by have := r.units; show _ < 9900; omega
  refine SeqAt.RcNeAt.tuples (A := A) (s := s) (e := fun _ => true) (items := vs.toArray) (items2 := us.toArray) ⟨_, S.live _ _ ho, rfl, m, rfl⟩ ⟨_, S.live _ _ ho', rfl, k, rfl⟩ (by omega) (fun j q1 q2 => ?_) _ _ _ _ ?_
  · have q1' : j < xs.length := by rw [← e1]; simpa using q1
    have q2' : j < ys.length := by omega
    obtain ⟨u, hu', hiu⟩ := hi.get (List.getElem?_eq_getElem q1')
    obtain ⟨w, hw', hiw⟩ := hi'.get (List.getElem?_eq_getElem q2')
    have g1 : vs.toArray[j] = u := arr_at hu' q1
    have g2 : us.toArray[j] = w := arr_at hw' q2
    rw [g1, g2]
    exact he f s R S j _ _ u w (List.getElem?_eq_getElem q1') (List.getElem?_eq_getElem q2') hiu hiw A.in1 (by show A.units + 1 + 100 < cLine; omega)
  · rw [all_true, Bool.true_and, show (vs.toArray.size == us.toArray.size) = true by simp; omega]
    exact post (.refl f) S (.bool _) h
theorem sub_ints {ns : List Int} {vs us : List Value} (h : IntsAre vs ns) (hs : ∀ v ∈ us, v ∈ vs) : ∃ ms, IntsAre us ms ∧ ms.length = us.length := by
  induction us with
  | nil => exact ⟨[], .nil, rfl⟩
  | cons u us ih =>
    obtain ⟨ms, h1, h2⟩ := ih fun v hv => hs v (.tail _ hv)
    have hu := hs u (.head _)
    have : ∃ i t, u = .int i t := by
      clear h1 h2 ih hs
      induction h with
      | nil => cases hu
      | cons i t _ ih =>
        rcases List.mem_cons.mp hu with rfl | hu
        · exact ⟨_, _, rfl⟩
        · exact ih hu
    obtain ⟨i, t, rfl⟩ := this
    exact ⟨i :: ms, .cons i t h1, by simp [h2]⟩
theorem pick_mem {items : Array Value} {lo hi st : Option Int} : ∀ v ∈ (slicePick items lo hi st).toList, v ∈ items.toList := fun v hv => by
  unfold slicePick at hv
  simp only [List.mem_filterMap] at hv
  obtain ⟨i, _, hi⟩ := hv
  have := Array.mem_of_getElem? hi
  simpa using this
theorem ev_rev {value step : Expr} {p pos : Pos} {Φ : AV → List Ent → Prop}
    (h : W C A l (eval value env) fun x l₁ => ∃ (a : Addr) (ns : List Int), x = .ref a ∧ lst a (ns.map .int) ∈ l₁ ∧ ns.length ≤ 1000 ∧ W C A l₁ (eval step env) fun y l₂ => y = .int (-1) ∧ lst a (ns.map .int) ∈ l₂ ∧ ∀ (b : Addr) (ms : List Int), ms.length ≤ ns.length → Φ (.ref b) (lst b (ms.map .int) :: l₂)) :
    W C A l (eval (.Subscript value (.Slice none none (some step) p) pos) env) Φ := fun R f s S => by
  refine Subscript_ (h.run S fun f₁ x l₁ v s₁ a₁ S₁ r₁ k₁ => ?_)
  obtain ⟨a, ns, rfl, hm, hz, k⟩ := k₁
  obtain rfl := r₁.refE
  refine wpAny_Slice ?_
  rw [evalPart_none]
  refine wpAny_pure (wpAny_pure ?_)
  rw [evalPart_some]
  refine k.run S₁ fun f₂ y l₂ vy s₂ a₂ S₂ r₂ k₂ => ?_
  obtain ⟨rfl, hm₂, hΦ⟩ := k₂
  obtain ⟨t, rfl⟩ := r₂.intE
  have hsl : (s₂.heap.push { cls := .type "slice", data := .fields #[.none, .none, .int (-1) t] }).IsSliceOf s₂.heap.objs.size .none .none (.int (-1) t) := Heap.IsSliceOf.new _ _ _ _
  have S₃ : St C f₂ (l₂ ++ R) { s₂ with heap := s₂.heap.push { cls := .type "slice", data := .fields #[.none, .none, .int (-1) t] } } := S₂.grow (fun b o e => Heap.get?_push_of_some _ e) rfl rfl
  obtain ⟨ws, m, hl, hi⟩ := S₃.isL (List.mem_append_left R hm₂)
  have e : ws.size = ns.length := by have := hi.length; simpa using this
  refine sub_tail (Heap.IsList.typeIs hl.isList) F.slot_list_getitem.lookup ?_
  refine wpAny_getItem_list_slice hl.isList hsl .none .none (.int _ _) (by simp) ?_ (by rw [sizeLine_eq]; omega)
  have hsz := slicePick_size_le ws none none (some (-1))
  obtain ⟨ms, g1, g2⟩ := sub_ints hi.ints (us := (slicePick ws none none (some (-1))).toList) pick_mem
  have g3 : ms.length ≤ ns.length := by rw [g2, Array.length_toList]; omega
  exact post (a₁.trans a₂) (S₃.push (e := lst _ (ms.map .int)) rfl ⟨_, _, rfl, IsAll.of_ints g1⟩ rfl rfl rfl rfl) (.ref _) (hΦ _ ms g3)
theorem ev_cut {value upper : Expr} {p pos : Pos} {a : Addr} {k : Nat} {ws : Array Value} {ns : List Int} {Φ : AV → List Ent → Prop} (hb : C.h0.IsList a ws) (hi : IntsAre ws.toList ns) (hz : ws.size ≤ 16777216) (hk : ns.length ≤ k)
    (h : W C A l (eval value env) fun x l₁ => x = .ref a ∧ W C A l₁ (eval upper env) fun y l₂ => y = .int k ∧ ∀ (b : Addr) (ms : List Int), ms.length ≤ k → Φ (.ref b) (lst b (ms.map .int) :: l₂)) :
    W C A l (eval (.Subscript value (.Slice none (some upper) none p) pos) env) Φ := fun R f s S => by
  refine Subscript_ (h.run S fun f₁ x l₁ v s₁ a₁ S₁ r₁ k₁ => ?_)
  obtain ⟨rfl, kk⟩ := k₁
  obtain rfl := r₁.refE
  refine wpAny_Slice ?_
  rw [evalPart_none]
  refine wpAny_pure ?_
  rw [evalPart_some]
  refine kk.run S₁ fun f₂ y l₂ vy s₂ a₂ S₂ r₂ k₂ => ?_
  obtain ⟨rfl, hΦ⟩ := k₂
  obtain ⟨t, rfl⟩ := r₂.intE
  refine wpAny_pure ?_
  have hsl : (s₂.heap.push { cls := .type "slice", data := .fields #[.none, .int k t, .none] }).IsSliceOf s₂.heap.objs.size .none (.int k t) .none := Heap.IsSliceOf.new _ _ _ _
  have S₃ : St C f₂ (l₂ ++ R) { s₂ with heap := s₂.heap.push { cls := .type "slice", data := .fields #[.none, .int k t, .none] } } := S₂.grow (fun b o e => Heap.get?_push_of_some _ e) rfl rfl
  have hl : (s₂.heap.push { cls := .type "slice", data := .fields #[.none, .int k t, .none] }).IsList a ws := by
    obtain ⟨o, ho, r⟩ := hb
    exact ⟨o, (S₃.base.trans S₃.live) _ _ ho, r⟩
  refine sub_tail (Heap.IsList.typeIs hl) F.slot_list_getitem.lookup ?_
  refine wpAny_getItem_list_slice hl hsl .none (.int _ _) .none (by simp) ?_ (by rw [sizeLine_eq]; omega)
  have hsz := slicePick_size_le ws none (some (k : Int)) none
  obtain ⟨ms, g1, g2⟩ := sub_ints hi (us := (slicePick ws none (some (k : Int)) none).toList) pick_mem
  have e : ws.size = ns.length := by have := hi.length; simpa using this
  have g3 : ms.length ≤ k := by rw [g2, Array.length_toList]; omega
  exact post (a₁.trans a₂) (S₃.push (e := lst _ (ms.map .int)) rfl ⟨_, _, rfl, IsAll.of_ints g1⟩ rfl rfl rfl rfl) (.ref _) (hΦ _ ms g3)
end
end Mine
end
section
open PySem PySem.W PySem.Calls PyProof.Rows
namespace Mine
section
variable {C : Cx} {A : Around} {n : Nat}
theorem compTurn_two0 (elt t1 i1 t2 i2 : Expr) (scope : Scope) (pos : Pos) (it acc : Value) (env : Env) :
    compTurn (.ListComp elt [⟨t1, i1, [], 0⟩, ⟨t2, i2, [], 0⟩] scope pos) 0 it acc env = (standAt i1.pos >>= fun _ => pyNext it >>= fun r => match r with
      | none => pure (.done .next)
      | some v => letOwnedTupleGo t1 it v >>= fun _ => assign t1 env v >>= fun _ => eval i2 env >>= fun x => standAt i2.pos >>= fun _ => foldedSetIterable i2 env x >>= fun x => holding [x] (pyIter x) >>= fun it2 =>
        runOwn (.compStart (.ListComp elt [⟨t1, i1, [], 0⟩, ⟨t2, i2, [], 0⟩] scope pos) 1 it2 acc env) env >>= fun _ => again (.compLoop (.ListComp elt [⟨t1, i1, [], 0⟩, ⟨t2, i2, [], 0⟩] scope pos) 0 it acc env)) := by rfl
theorem compTurn_two1 (elt t1 i1 t2 i2 : Expr) (scope : Scope) (pos : Pos) (it acc : Value) (env : Env) :
    compTurn (.ListComp elt [⟨t1, i1, [], 0⟩, ⟨t2, i2, [], 0⟩] scope pos) 1 it acc env = (standAt i2.pos >>= fun _ => pyNext it >>= fun r => match r with
      | none => pure (.done .next)
      | some v => letOwnedTupleGo t2 it v >>= fun _ => assign t2 env v >>= fun _ =>
        (eval elt env >>= fun x => call (.builtin "list.append") [acc, x] >>= fun _ => pure ()) >>= fun _ =>
          again (.compLoop (.ListComp elt [⟨t1, i1, [], 0⟩, ⟨t2, i2, [], 0⟩] scope pos) 1 it acc env)) := by rfl
theorem compStart_two {elt t1 i1 t2 i2 : Expr} {scope : Scope} {pos : Pos} {it acc : Value} {env : Env} {s : Shared} {R : Result → Shared → Prop}
    (h0 : codeAny C.M A (.compLoop (.ListComp elt [⟨t1, i1, [], 0⟩, ⟨t2, i2, [], 0⟩] scope pos) 1 it acc env) R s)
    (h : wpAny C.M A (pyIter it) (fun it' s' => codeAny C.M A (.compLoop (.ListComp elt [⟨t1, i1, [], 0⟩, ⟨t2, i2, [], 0⟩] scope pos) 1 it' acc env) R s') NoE s) :
    codeAny C.M A (.compStart (.ListComp elt [⟨t1, i1, [], 0⟩, ⟨t2, i2, [], 0⟩] scope pos) 1 it acc env) R s := by
  refine codeAny_of_tree ?_
  show wpAny _ _ ((compStart (.ListComp elt [⟨t1, i1, [], 0⟩, ⟨t2, i2, [], 0⟩] scope pos) 1 it acc env).onRaise (fun x => do noteFrame x env; standAt theWindowsPlace)) _ _ s
  refine wpAny_notedAt ?_
  unfold compStart
  show wpAny _ _ (ask >>= _) _ _ s
  refine wpAny_bind (wpAny_askSetting (wpAny_ite ?_))
  split
  · first
      | exact wpAny_bind (wpAny_pure (wpAny_pure (And.intro rfl h0)))
      | exact wpAny_pure (And.intro rfl h0)
  · refine wpAny_bind (wpAny_rule ?_)
    show wpAny _ _ (standAt i2.pos >>= _) _ _ s
    exact wpAny_bind (wpAny_standAt (wpAny_bind (wpAny_mono h (fun it' s' h' => wpAny_pure (And.intro rfl h')) fun _ _ x => x.elim)))
noncomputable abbrev FlatP (C : Cx) (Φ : AV → List Ent → Prop) : AV → List Ent → Prop := fun v l₁ => ∃ (a : Addr) (bs : List Addr) (yss : List (List AV)), v = .ref a ∧ lst a (bs.map .ref) ∈ l₁ ∧ bs.length = yss.length ∧ (∀ (i : Nat) (b : Addr) (ys : List AV), bs[i]? = some b → yss[i]? = some ys → lst b ys ∈ l₁) ∧ yss.flatten.length ≤ 100000 ∧ (∀ c, Φ (.ref c) (lst c yss.flatten :: l₁))
theorem ev_flat {sc : Scope} {cl cl' : List (Str × Addr)} {env : Env} {l : List Ent} {iter : Expr} {scope : Scope} {pos p1 p2 p3 p4 : Pos} {x y : Str} {names : List Str} {Φ : AV → List Ent → Prop} (r : Room A n) (E : EnvIs sc cl env)
    (hclos : closS scope.names cl [] = some cl') (hcell : ∀ z ∈ scope.names, z.2 ≠ .cell) (hkind : scope.kind = .function) (hnames : ∀ z ∈ scope.names, z.2 = .local → scope.names.lookup z.1 = some .local) (hnd : names.Nodup)
    (hlx : checkNames (relabelS scope sc) .local names = true) (hk : (relabelS scope sc).kind = .function) (ix : ∃ vs, SetN names (names.map fun _ => none) x (.int 0) vs) (gx : ∀ v : AV, ∃ vs, SetN names (names.map fun _ => none) x v vs ∧ LookN names vs x v) (gy : ∀ v : AV, ∃ vs, SetN names (names.map fun _ => none) y v vs ∧ LookN names vs y v)
    (h : W C A l (eval iter env) (FlatP C Φ))
    (hs : ∀ x, foldedSetIterable iter env x = pure x := by intro _; rfl) :
    W C A l (eval (.ListComp (.Name y p1) [⟨.Name x p2, iter, [], 0⟩, ⟨.Name y p3, .Name x p4, [], 0⟩] scope pos) env) Φ := fun R f s S => by
  rw [eval_ListComp]
  refine wpAny_comprehension_free (use := none) rfl hs (closureFor_eq E.cells hclos) hkind hnames ?_
  refine h.run S fun f₁ v l₁ u s₁ a₁ S₁ r₁ k₁ => ?_
  obtain ⟨a, bs, yss, rfl, hm, hbl, hrows, hz, hΦ⟩ := k₁
  have src : SrcOf C l₁ .list (.ref a) (bs.map .ref) := .list hm
  refine start_iter r src S₁ r₁ fun it ie s₂ I S₂ => ?_
  refine wpAny_newObj_type ?_ (by size_fits)
  have S₃ : St C f₁ ((lst s₂.heap.objs.size [] :: (l₁ ++ ie 0 :: R)) ++ []) { s₂ with heap := s₂.heap.push { cls := .type "list", data := .seq ([] : List Value).toArray } } :=
    St.push (R := []) (by rw [List.append_nil]; exact S₂) rfl ⟨#[], 0, rfl, .nil⟩ rfl rfl rfl rfl
  rw [List.append_nil] at S₃
  refine wpAny_newFunctionEnv hcell (by intro y hy; simp at hy) (fun h₁ hns hsb => ?_) hkind
  dsimp only at hns hsb
  have S₄ := ns_new (tk := s₂.toks + ([] : List (Str × Value)).length) hnd S₃ hns hsb
  have S₅ : St C f₁ (l₁ ++ ie 0 :: ns (s₂.heap.push { cls := .type "list", data := .seq ([] : List Value).toArray }).objs.size names (names.map fun _ => none) :: lst s₂.heap.objs.size [] :: R) _ :=
    S₄.perm (by
      refine List.Perm.trans ?_ (List.perm_middle.symm)
      refine List.Perm.trans ?_ (List.Perm.cons _ (List.perm_middle.symm))
      refine List.Perm.trans ?_ (List.Perm.cons _ (List.Perm.cons _ List.perm_middle.symm))
      exact List.Perm.trans (List.Perm.cons _ (List.Perm.cons _ List.perm_middle)) (List.Perm.trans (List.Perm.cons _ (List.Perm.swap _ _ _)) (List.Perm.swap _ _ _)))
  have Ec := compEnv_is (scope := scope) (cl' := cl') (L := (s₂.heap.push { cls := .type "list", data := .seq ([] : List Value).toArray }).objs.size) E
  generalize (s₂.heap.push { cls := .type "list", data := .seq ([] : List Value).toArray }).objs.size = L at S₅ Ec ⊢
  have hL : (compEnvC scope cl' L env).locals = L := rfl
  have hT := Ec.loc hk hlx
  generalize hD : s₂.heap.objs.size = D at S₅ ⊢
  clear S₃ S₄ hns hsb
  have inner : ∀ (i : Nat) (b : Addr) (ys acc : List AV) (f' : PH) (s' : Shared) (Rr : Result → Shared → Prop), lst b ys ∈ l₁ → acc.length + ys.length ≤ 100000 → St C f' (l₁ ++ ie i :: ns L names (names.map fun _ => none) :: lst D acc :: R) s' →
      (∀ f'' s'', Sub f' f'' → St C f'' (l₁ ++ ie i :: ns L names (names.map fun _ => none) :: lst D (acc ++ ys) :: R) s'' → Rr (.ok .next) s'') →
      wpAny C.M A (pyIter (.ref b)) (fun it2 s'' => codeAny C.M A (.compStart (.ListComp (.Name y p1) [⟨.Name x p2, iter, [], 0⟩, ⟨.Name y p3, .Name x p4, [], 0⟩] scope pos) 1 it2 (.ref D) (compEnvC scope cl' L env)) Rr s'') NoE s' := by
    intro i b ys acc f' s' Rr hb hzz S' hR
    refine start_iter r (SrcOf.list hb : SrcOf C l₁ .list (.ref b) ys) S' (.ref b) fun it2 ie2 s₆ I2 S₆ => ?_
    have loop : ∀ (k : Nat) (f₇ : PH) (s₇ : Shared), Sub f' f₇ → k ≤ ys.length → St C f₇ (l₁ ++ ie2 k :: ie i :: ns L names (names.map fun _ => none) :: lst D (acc ++ ys.take k) :: R) s₇ →
        codeAny C.M A (.compLoop (.ListComp (.Name y p1) [⟨.Name x p2, iter, [], 0⟩, ⟨.Name y p3, .Name x p4, [], 0⟩] scope pos) 1 (.ref it2) (.ref D) (compEnvC scope cl' L env)) Rr s₇ := by
      intro k f₇ s₇ hf hk7 S₇
      refine codeAny_loop rfl (fun m s => ∃ k f₇, k + m = ys.length ∧ Sub f' f₇ ∧ St C f₇ (l₁ ++ ie2 k :: ie i :: ns L names (names.map fun _ => none) :: lst D (acc ++ ys.take k) :: R) s) (fun m s hI => ?_) (ys.length - k) ⟨k, f₇, by omega, hf, S₇⟩
      obtain ⟨k, f₈, hkm, hf₈, S₈⟩ := hI
      show wpAny _ A ((compTurn _ 1 (.ref it2) (.ref D) (compEnvC scope cl' L env)).onRaise (fun x => do noteFrame x _; theTreesLotGoes x)) _ _ s
      refine wpAny_noted ?_
      rw [compTurn_two1]
      refine wpAny_bind (wpAny_standAt (wpAny_bind ?_))
      cases hy : ys[k]? with
      | none =>
        have hke : k = ys.length := by have := List.getElem?_eq_none_iff.mp hy; omega
        subst hke
        refine wpAny_mono (I2.fin (SrcOf.list hb) S₈ fun s₉ S₉ => ?_) (fun _ _ q => q) fun _ _ e => e.elim
        rw [List.take_length] at S₉
        exact wpAny_pure (hR f₈ s₉ hf₈ S₉)
      | some z =>
        have hlt := (List.getElem?_eq_some_iff.mp hy).1
        refine wpAny_mono (I2.item hy (SrcOf.list hb) S₈ fun v f₉ s₉ a₉ hv S₉ => ?_) (fun _ _ q => q) fun _ _ e => e.elim
        refine wpAny_bind (wpAny_of_eq (a := ()) (by rfl) (wpAny_bind ?_))
        obtain ⟨vs, hset, hlook⟩ := gy z
        have S₁₀ : St C f₉ ((l₁ ++ [ie2 (k + 1), ie i]) ++ ns L names (names.map fun _ => none) :: (lst D (acc ++ ys.take k) :: R)) s₉ := S₉.cast (app2 ..)
        have st := (as_name (p := p3) (st_loc (C := C) (A := A) (env := compEnvC scope cl' L env) (l := [ns L names (names.map fun _ => none)]) (Φ := fun _ l' => l' = [ns L names vs]) hT .head hset rfl))
        refine wpAny_mono (st (lst D (acc ++ ys.take k) :: R ++ (l₁ ++ [ie2 (k + 1), ie i])) f₉ s₉ v (S₁₀.perm ?_) hv) (fun _ s₁₁ p₁₁ => ?_) fun _ _ e => e.elim
        · exact List.perm_append_comm
        obtain ⟨f₁₁, _, _, b₁₁, S₁₁, _, rfl⟩ := p₁₁
        refine wpAny_bind (wpAny_bind (wpAny_mono ((ev_loc (pos := p1) (C := C) (A := A) (l := [ns L names vs]) (Φ := fun w l' => w = z ∧ l' = [ns L names vs]) hT (.head _) hlook ⟨rfl, rfl⟩) _ _ _ S₁₁) (fun u s₁₂ p₁₂ => ?_) fun _ _ e => e.elim))
        obtain ⟨f₁₂, _, _, b₁₂, S₁₂, hu, hw, rfl⟩ := p₁₂
        rw [hw] at hu
        have S₁₃ : St C f₁₂ ([ns L names vs] ++ lst D (acc ++ ys.take k) :: (R ++ (l₁ ++ [ie2 (k + 1), ie i]))) s₁₂ := S₁₂
        have hle : (acc ++ ys.take k).length ≤ 100000 := by rw [List.length_append, List.length_take]; omega
        refine wpAny_bind (wpAny_mono (app_raw S₁₃ hu hle fun s₁₄ S₁₄ => ?_) (fun _ _ q => q) fun _ _ e => e.elim)
        refine wpAny_pure (wpAny_pure ⟨rfl, m - 1, by omega, k + 1, f₁₂, by omega, ((hf₈.trans a₉).trans b₁₁).trans b₁₂, ?_⟩)
        have S₁₅ := ns_forget (L := []) (s := s₁₄) (a := L) (names := names) (vals := vs) (R := lst D (acc ++ ys.take k ++ [z]) :: (R ++ (l₁ ++ [ie2 (k + 1), ie i]))) S₁₄
        rw [List.append_assoc, show ys.take k ++ [z] = ys.take (k + 1) by rw [List.take_add_one, hy]; rfl] at S₁₅
        refine S₁₅.perm ?_
        have e1 : ([] ++ ns L names (names.map fun _ => none) :: lst D (acc ++ ys.take (k + 1)) :: (R ++ (l₁ ++ [ie2 (k + 1), ie i]))) = (ns L names (names.map fun _ => none) :: lst D (acc ++ ys.take (k + 1)) :: R) ++ (l₁ ++ [ie2 (k + 1), ie i]) := rfl
        have e2 : (l₁ ++ ie2 (k + 1) :: ie i :: ns L names (names.map fun _ => none) :: lst D (acc ++ ys.take (k + 1)) :: R) = (l₁ ++ [ie2 (k + 1), ie i]) ++ (ns L names (names.map fun _ => none) :: lst D (acc ++ ys.take (k + 1)) :: R) := app2 ..
        rw [e1, e2]
        exact List.perm_append_comm
    have l0 := loop 0 f' s₆ (.refl f') (Nat.zero_le _) (by rw [List.take_zero, List.append_nil]; exact S₆)
    exact compStart_two l0 (I2.self (Q := fun it' s'' => codeAny C.M A (.compLoop (.ListComp (.Name y p1) [⟨.Name x p2, iter, [], 0⟩, ⟨.Name y p3, .Name x p4, [], 0⟩] scope pos) 1 it' (.ref D) (compEnvC scope cl' L env)) Rr s'') S₆ l0)
  have outer : codeAny C.M A (.compLoop (.ListComp (.Name y p1) [⟨.Name x p2, iter, [], 0⟩, ⟨.Name y p3, .Name x p4, [], 0⟩] scope pos) 0 (.ref it) (.ref D) (compEnvC scope cl' L env))
      (compPost C.M A NoE none (Post C Is f R Φ) (.ref D) L) { s₂ with heap := h₁, toks := s₂.toks + ([] : List (Str × Value)).length } := by
    refine codeAny_loop rfl (fun m s => ∃ i f', i + m = bs.length ∧ Sub f₁ f' ∧ St C f' (l₁ ++ ie i :: ns L names (names.map fun _ => none) :: lst D (yss.take i).flatten :: R) s) (fun m s hI => ?_) bs.length ⟨0, f₁, by omega, .refl _, S₅⟩
    obtain ⟨i, f', him, hf', S'⟩ := hI
    show wpAny _ A ((compTurn _ 0 (.ref it) (.ref D) (compEnvC scope cl' L env)).onRaise (fun x => do noteFrame x _; theTreesLotGoes x)) _ _ s
    refine wpAny_noted ?_
    rw [compTurn_two0]
    refine wpAny_bind (wpAny_standAt (wpAny_bind ?_))
    cases hb : bs[i]? with
    | none =>
      have hie : i = bs.length := by have := List.getElem?_eq_none_iff.mp hb; omega
      subst hie
      have e : (bs.map AV.ref).length = bs.length := List.length_map ..
      refine wpAny_mono (I.fin src (by rw [e]; exact S') fun s'' S'' => ?_) (fun _ _ q => q) fun _ _ e => e.elim
      refine wpAny_pure ?_
      rw [hbl, List.take_length] at S''
      obtain ⟨o, ho, m', es, ep, h1, h2, h3, _⟩ := S''.midGet
      refine ⟨m', ⟨o, es, ep, ho, h1, h2, h3⟩, fun h' hs => ?_⟩
      have S₉ : St C f' (l₁ ++ lst D yss.flatten :: R) { s'' with heap := h' } := S''.gone (e := ns _ names _) hs.extBut rfl rfl rfl
      exact ⟨f', .ref D, lst D yss.flatten :: l₁, a₁.trans hf', S₉.perm List.perm_middle, .ref _, hΦ D⟩
    | some b =>
      have hlt := (List.getElem?_eq_some_iff.mp hb).1
      have hyl : i < yss.length := by omega
      have hys := List.getElem?_eq_getElem hyl
      generalize yss[i] = ys at hys
      have hy : (bs.map AV.ref)[i]? = some (.ref b) := by rw [List.getElem?_map, hb]; rfl
      refine wpAny_mono (I.item hy src S' fun v f'' s'' a'' hv S'' => ?_) (fun _ _ q => q) fun _ _ e => e.elim
      refine wpAny_bind (wpAny_of_eq (a := ()) (by rfl) (wpAny_bind ?_))
      obtain ⟨vs, hset, hlook⟩ := gx (.ref b)
      have S₁₀ : St C f'' ((l₁ ++ [ie (i + 1)]) ++ ns L names (names.map fun _ => none) :: (lst D (yss.take i).flatten :: R)) s'' := S''.cast (app1 ..)
      have st := (as_name (p := p2) (st_loc (C := C) (A := A) (env := compEnvC scope cl' L env) (l := [ns L names (names.map fun _ => none)]) (Φ := fun _ l' => l' = [ns L names vs]) hT .head hset rfl))
      refine wpAny_mono (st (lst D (yss.take i).flatten :: R ++ (l₁ ++ [ie (i + 1)])) f'' s'' v (S₁₀.perm ?_) hv) (fun _ s₁₁ p₁₁ => ?_) fun _ _ e => e.elim
      · exact List.perm_append_comm
      obtain ⟨f₁₁, _, _, b₁₁, S₁₁, _, rfl⟩ := p₁₁
      refine wpAny_bind (wpAny_mono ((ev_loc (pos := p4) (C := C) (A := A) (l := [ns L names vs]) (Φ := fun w l' => w = .ref b ∧ l' = [ns L names vs]) hT (.head _) hlook ⟨rfl, rfl⟩) _ _ _ S₁₁) (fun u s₁₂ p₁₂ => ?_) fun _ _ e => e.elim)
      obtain ⟨f₁₂, _, _, b₁₂, S₁₂, hu, hw, rfl⟩ := p₁₂
      rw [hw] at hu
      obtain rfl := hu.refE
      refine wpAny_bind (wpAny_standAt (wpAny_bind (wpAny_of_eq (a := Value.ref b) (by rfl) (wpAny_bind (wpAny_holding ?_)))))
      have S₁₃ : St C f₁₂ (l₁ ++ ie (i + 1) :: ns L names (names.map fun _ => none) :: lst D (yss.take i).flatten :: R) s₁₂ := by
        have S₁₄ := ns_forget (L := []) (s := s₁₂) (a := L) (names := names) (vals := vs) (R := lst D (yss.take i).flatten :: R ++ (l₁ ++ [ie (i + 1)])) S₁₂
        refine S₁₄.perm ?_
        have e1 : ([] ++ ns L names (names.map fun _ => none) :: (lst D (yss.take i).flatten :: R ++ (l₁ ++ [ie (i + 1)]))) = (ns L names (names.map fun _ => none) :: lst D (yss.take i).flatten :: R) ++ (l₁ ++ [ie (i + 1)]) := rfl
        have e2 : (l₁ ++ ie (i + 1) :: ns L names (names.map fun _ => none) :: lst D (yss.take i).flatten :: R) = (l₁ ++ [ie (i + 1)]) ++ (ns L names (names.map fun _ => none) :: lst D (yss.take i).flatten :: R) := app1 ..
        rw [e1, e2]
        exact List.perm_append_comm
      have hsum : (yss.take (i + 1)).flatten = (yss.take i).flatten ++ ys := by rw [List.take_add_one, hys, List.flatten_append]; show _ ++ (ys ++ []) = _; rw [List.append_nil]
      have hle : (yss.take i).flatten.length + ys.length ≤ 100000 := by
        have e1 : yss.flatten = (yss.take (i + 1)).flatten ++ (yss.drop (i + 1)).flatten := by rw [← List.flatten_append, List.take_append_drop]
        rw [e1, hsum, List.length_append, List.length_append] at hz
        omega
      refine wpAny_mono (inner (i + 1) b ys _ f₁₂ s₁₂ _ (hrows i b ys hb hys) hle S₁₃ (fun f₂₀ s₂₀ a₂₀ S₂₀ => ?_)) (fun it2 s' hc => wpAny_bind (wpAny_runOwn (h := none) hc)) fun _ _ e => e.elim
      rw [← hsum] at S₂₀
      exact wpAny_pure ⟨rfl, m - 1, by omega, i + 1, f₂₀, by omega, (((hf'.trans a'').trans b₁₁).trans b₁₂).trans a₂₀, S₂₀⟩
  exact codeAny_compStart_list outer (wpAny_mono (I.self (Q := fun it' s' => codeAny C.M A (.compLoop _ 0 it' _ _) _ s') S₅ outer) (fun _ _ q => q) fun _ _ e => e.elim)
end
end Mine
end
section
open PySem PySem.W PySem.Calls PyProof.Rows
namespace Mine
section
variable {C : Cx} {A : Around} {n : Nat}
theorem letGo_iter {prog : Program} {w : World} {E : Value → Shared → Prop} {B : Around} {s : Shared} {elts : List Expr} {k : Nat} {p : Pos} {it : Addr} {v : Value} {o : Obj} {fs : Array Value} {Q : Unit → Shared → Prop} (ho : s.heap.get? it = some o) (hc : o.cls = .type "dict_keyiterator") (hd : o.data = .fields fs) (h : Q () s) :
    wpAny (model prog w) B (letOwnedTupleGo (.Tuple elts k p) (.ref it) v) Q E s := by
  unfold letOwnedTupleGo
  cases v <;> first
    | exact wpAny_pure h
    | (refine wpAny_bind (wpAny_load ho ?_)
       rw [hc, hd]
       exact wpAny_pure h)
noncomputable def ieT (it d : Addr) (N ep i : Nat) : Ent := ⟨it, fun _ o => o.cls = .type "dict_keyiterator" ∧ o.data = .fields #[.ref d, .int i 0, .int N 0, .int ep 0], fun _ h => h⟩
theorem perm_c {a b c : Ent} {l R : List Ent} : (b :: c :: (l ++ a :: R)).Perm (l ++ a :: b :: c :: R) := by
  refine List.Perm.trans ?_ (List.perm_middle.symm)
  refine List.Perm.trans ?_ (List.Perm.cons _ (List.perm_middle.symm))
  refine List.Perm.trans ?_ (List.Perm.cons _ (List.Perm.cons _ List.perm_middle.symm))
  exact List.Perm.trans (List.Perm.cons _ (List.Perm.cons _ List.perm_middle)) (List.Perm.trans (List.Perm.cons _ (List.Perm.swap _ _ _)) (List.Perm.swap _ _ _))
theorem ev_compT {sc : Scope} {cl cl' : List (Str × Addr)} {env : Env} {l : List Ent} {elt iter : Expr} {elts : List Expr} {k : Nat} {tp pos : Pos} {scope : Scope} {names : List Str} {g : Int → Int → AV} {Φ : AV → List Ent → Prop} (r : Room A n) (E : EnvIs sc cl env)
    (hclos : closS scope.names cl [] = some cl') (hcell : ∀ z ∈ scope.names, z.2 ≠ .cell) (hkind : scope.kind = .function) (hnames : ∀ z ∈ scope.names, z.2 = .local → scope.names.lookup z.1 = some .local) (hnd : names.Nodup)
    (h : W C A l (eval iter env) fun v l₁ => ∃ (d : Addr) (kv : List ((Int × Int) × AV)) (e : Nat), v = .ref d ∧ dicT C.w d (kv.map fun p => ([p.1.1, p.1.2], p.2)) (some e) ∈ l₁ ∧ kv.length ≤ 100000 ∧
      (∀ cenv, EnvIs (relabelS scope sc) cl' cenv → ∀ a b, W1 C A isEq (ns cenv.locals names (names.map fun _ => none) :: l₁) (.tup [.int a, .int b]) (fun v => assign (.Tuple elts k tp) cenv v) fun _ l₂ => W C A l₂ (eval elt cenv) fun z l₃ =>
        z = g a b ∧ ∃ vals, l₃ = ns cenv.locals names vals :: l₁) ∧ (∀ c, Φ (.ref c) (lst c (kv.map fun p => g p.1.1 p.1.2) :: l₁)))
    (hs : ∀ x, foldedSetIterable iter env x = pure x := by intro _; rfl) :
    W C A l (eval (.ListComp elt [⟨.Tuple elts k tp, iter, [], 0⟩] scope pos) env) Φ := fun R f s S => by
  rw [eval_ListComp]
  refine wpAny_comprehension_free (use := none) rfl hs (closureFor_eq E.cells hclos) hkind hnames ?_
  refine h.run S fun f₁ v l₁ u s₁ a₁ S₁ r₁ k₁ => ?_
  obtain ⟨d, kv, e, rfl, hm, hz, turn, fin⟩ := k₁
  obtain rfl := r₁.refE
  obtain ⟨od, hod, hsys, xs, es, ep, h1, h2, h3, h4, h5, h6⟩ := S₁.get (List.mem_append_left R hm)
  obtain rfl := h6 e rfl
  have hl : es.size = (kv.map fun p => (([p.1.1, p.1.2], p.2) : List Int × AV)).length := by rw [size_of_entries h3, h5.length]
  refine iter_raw hsys hod h1 h2 ?_
  have hN : (kv.map fun p => (([p.1.1, p.1.2], p.2) : List Int × AV)).length = kv.length := List.length_map ..
  have I : Iter C A ((kv.map fun p => (([p.1.1, p.1.2], p.2) : List Int × AV)).map fun p => .tup (p.1.map .int)) (fun l => dicT C.w d (kv.map fun p => (([p.1.1, p.1.2], p.2) : List Int × AV)) (some ep) ∈ l) s₁.heap.objs.size (ieT s₁.heap.objs.size d kv.length ep) := by
    have := it_dictT (C := C) (A := A) r s₁.heap.objs.size d (kv.map fun p => (([p.1.1, p.1.2], p.2) : List Int × AV)) ep
    rw [hN] at this
    exact this
  have S₂ : St C f₁ (l₁ ++ ieT s₁.heap.objs.size d kv.length ep 0 :: R) { s₁ with heap := s₁.heap.push { cls := .type "dict_keyiterator", data := .fields #[.ref d, .int 0 0, .int es.size 0, .int ep 0] } } :=
    S₁.pushMid (e := ieT s₁.heap.objs.size d kv.length ep 0) (o := { cls := .type "dict_keyiterator", data := .fields #[.ref d, .int 0 0, .int es.size 0, .int ep 0] }) rfl ⟨rfl, by rw [hl, hN]; rfl⟩ rfl rfl rfl rfl
  generalize { s₁ with heap := s₁.heap.push { cls := .type "dict_keyiterator", data := .fields #[.ref d, .int 0 0, .int es.size 0, .int ep 0] } } = s₂ at S₂ ⊢
  generalize s₁.heap.objs.size = it at I S₂ ⊢
  refine wpAny_newObj_type ?_ (by size_fits)
  have S₃ := St.push (R := []) (s' := { s₂ with heap := s₂.heap.push { cls := .type "list", data := .seq ([] : List Value).toArray } }) (e := lst s₂.heap.objs.size []) (o := { cls := .type "list", data := .seq ([] : List Value).toArray }) (by rw [List.append_nil]; exact S₂) rfl ⟨#[], 0, rfl, .nil⟩ rfl rfl rfl rfl
  rw [List.append_nil] at S₃
  refine wpAny_newFunctionEnv hcell (by intro y hy; simp at hy) (fun h₁ hns hsb => ?_) hkind
  dsimp only at hns hsb
  have S₄ := ns_new (tk := s₂.toks + ([] : List (Str × Value)).length) hnd S₃ hns hsb
  have S₅ := S₄.perm (perm_c (a := ieT it d kv.length ep 0) (l := l₁) (R := R))
  have Ec := compEnv_is (scope := scope) (cl' := cl') (L := (s₂.heap.push { cls := .type "list", data := .seq ([] : List Value).toArray }).objs.size) E
  have turn' := turn _ Ec
  have hL : (compEnvC scope cl' (s₂.heap.push { cls := .type "list", data := .seq ([] : List Value).toArray }).objs.size env).locals = (s₂.heap.push { cls := .type "list", data := .seq ([] : List Value).toArray }).objs.size := rfl
  rw [hL] at turn'
  generalize (s₂.heap.push { cls := .type "list", data := .seq ([] : List Value).toArray }).objs.size = L at S₅ turn' ⊢
  generalize s₂.heap.objs.size = D at S₅ ⊢
  clear S₃ S₄ hns hsb
  have ekl : (kv.map fun p => (([p.1.1, p.1.2], p.2) : List Int × AV)).length = kv.length := List.length_map ..
  have loop : codeAny C.M A (.compLoop (.ListComp elt [⟨.Tuple elts k tp, iter, [], 0⟩] scope pos) 0 (.ref it) (.ref D) (compEnvC scope cl' L env))
      (compPost C.M A NoE none (Post C Is f R Φ) (.ref D) L) { s₂ with heap := h₁, toks := s₂.toks + ([] : List (Str × Value)).length } := by
    refine LCp.codeAny_compLoop_pair (fun m s => ∃ i f', i + m = kv.length ∧ Sub f₁ f' ∧ St C f' (l₁ ++ ieT it d kv.length ep i :: ns L names (names.map fun _ => none) :: lst D ((kv.take i).map fun p => g p.1.1 p.1.2) :: R) s) (fun m s hI => ?_) kv.length ⟨0, f₁, by omega, .refl _, S₅⟩
    obtain ⟨i, f', him, hf', S'⟩ := hI
    cases hb : kv[i]? with
    | none =>
      have hie : i = kv.length := by have := List.getElem?_eq_none_iff.mp hb; omega
      subst hie
      refine wpAny_mono (I.fin hm (by rw [List.length_map, ekl]; exact S') fun s'' S'' => ?_) (fun _ _ q => q) fun _ _ e => e.elim
      rw [List.take_length] at S''
      obtain ⟨o, ho, m', es, ep, h1, h2, h3, _⟩ := S''.midGet
      refine ⟨m', ⟨o, es, ep, ho, h1, h2, h3⟩, fun h' hs => ?_⟩
      have S₉ := S''.gone (s' := { s'' with heap := h' }) (e := ns L names _) hs.extBut rfl rfl rfl
      exact ⟨f', .ref D, _, a₁.trans hf', S₉.perm List.perm_middle, .ref _, fin D⟩
    | some p =>
      have hlt := (List.getElem?_eq_some_iff.mp hb).1
      have hy : ((kv.map fun p => (([p.1.1, p.1.2], p.2) : List Int × AV)).map fun p => AV.tup (p.1.map .int))[i]? = some (.tup [.int p.1.1, .int p.1.2]) := by rw [List.getElem?_map, List.getElem?_map, hb]; rfl
      refine wpAny_mono (I.item hy hm S' fun v f'' s'' a'' hv S'' => ?_) (fun _ _ q => q) fun _ _ e => e.elim
      obtain ⟨o, ho, hc, hd⟩ := S''.midGet
      refine letGo_iter ho hc hd ?_
      have S₁₀ := S''.perm (perm_a (a := ieT it d kv.length ep (i + 1)) (b := ns L names (names.map fun _ => none)))
      refine wpAny_mono (turn' p.1.1 p.1.2 _ _ _ _ S₁₀ hv) (fun _ s₃ p₃ => ?_) fun _ _ e => e.elim
      obtain ⟨f₃, _, l₃, b₃, S₃, _, w₃⟩ := p₃
      refine wpAny_mono (w₃ _ _ _ S₃) (fun u s₄ p₄ => ?_) fun _ _ e => e.elim
      obtain ⟨f₄, z, _, b₄, S₄, r₄, hz', vals, rfl⟩ := p₄
      subst hz'
      have S₆ := S₄.perm perm_b
      have S₇ := ns_forget (L := l₁ ++ [_]) (a := L) (names := names) (vals := vals) (S₆.cast (app1 ..))
      have S₈ : St C f₄ ((l₁ ++ [ieT it d kv.length ep (i + 1), ns L names (names.map fun _ => none)]) ++ lst D ((kv.take i).map fun p => g p.1.1 p.1.2) :: R) s₄ := S₇.cast ((app1 ..).symm.trans (app2 ..))
      refine wpAny_mono (app_raw S₈ r₄ (by rw [List.length_map, List.length_take]; omega) fun s₅ S₉ => ?_) (fun _ _ q => q) fun _ _ e => e.elim
      refine ⟨m - 1, by omega, i + 1, f₄, by omega, ((hf'.trans a'').trans b₃).trans b₄, ?_⟩
      have e : (kv.take (i + 1)).map (fun p => g p.1.1 p.1.2) = (kv.take i).map (fun p => g p.1.1 p.1.2) ++ [g p.1.1 p.1.2] := by rw [List.take_add_one, hb, List.map_append]; rfl
      rw [e]
      exact S₉.cast (app2 ..).symm
  exact codeAny_compStart_list loop (wpAny_mono (I.self (Q := fun it' s' => codeAny C.M A (.compLoop _ 0 it' _ _) _ s') S₅ loop) (fun _ _ q => q) fun _ _ e => e.elim)
end
end Mine
end
section
open PySem PySem.W PySem.Calls PyProof.Rows
namespace Mine
theorem gv_min (C : Cx) : GV C (Str.ofString "min") (.builtin "min") := gvB (v := .builtin "min") rfl (by decide) (by boot_by_name) fun _ => .builtin _
theorem gv_max (C : Cx) : GV C (Str.ofString "max") (.builtin "max") := gvB (v := .builtin "max") rfl (by decide) (by boot_by_name) fun _ => .builtin _
theorem gv_len (C : Cx) : GV C (Str.ofString "len") (.builtin "len") := gvB (v := .builtin "len") rfl (by decide) (by boot_by_name) fun _ => .builtin _
theorem gv_abs (C : Cx) : GV C (Str.ofString "abs") (.builtin "abs") := gvB (v := .builtin "abs") rfl (by decide) (by boot_by_name) fun _ => .builtin _
theorem gv_chr (C : Cx) : GV C (Str.ofString "chr") (.builtin "chr") := gvB (v := .builtin "chr") rfl (by decide) (by boot_by_name) fun _ => .builtin _
theorem gv_ord (C : Cx) : GV C (Str.ofString "ord") (.builtin "ord") := gvB (v := .builtin "ord") rfl (by decide) (by boot_by_name) fun _ => .builtin _
theorem gv_int (C : Cx) : GV C (Str.ofString "int") (.type "int") := gvB (v := .type "int") rfl (by decide) (by boot_by_name) fun _ => .type _
theorem gv_list (C : Cx) : GV C (Str.ofString "list") (.type "list") := gvB (v := .type "list") rfl (by decide) (by boot_by_name) fun _ => .type _
theorem gv_tuple (C : Cx) : GV C (Str.ofString "tuple") (.type "tuple") := gvB (v := .type "tuple") rfl (by decide) (by boot_by_name) fun _ => .type _
theorem gv_dict (C : Cx) : GV C (Str.ofString "dict") (.type "dict") := gvB (v := .type "dict") rfl (by decide) (by boot_by_name) fun _ => .type _
theorem gv_range (C : Cx) : GV C (Str.ofString "range") (.type "range") := gvB (v := .type "range") rfl (by decide) (by boot_by_name) fun _ => .type _
theorem gv_bytes (C : Cx) : GV C (Str.ofString "bytes") (.type "bytes") := gvB (v := .type "bytes") rfl (by decide) (by boot_by_name) fun _ => .type _
theorem gvr {C : Cx} {x : Str} {a : Addr} (e : nsIn (Kf C) mainGlobals x = some (some (.ref a))) : GV C x (.ref a) := gvK e fun _ _ => .ref _
theorem gvi {C : Cx} {x : Str} {i : Int} {t : Tok} (e : nsIn (Kf C) mainGlobals x = some (some (.int i t))) : GV C x (.int i) := gvK e fun _ _ => .int _ _
theorem gv_clamp (C : Cx) : GV C (Str.ofString "clamp") (.ref 28) := gvr rfl
theorem gv_Raster (C : Cx) : GV C (Str.ofString "Raster") (.ref 54) := gvr rfl
theorem gv_first (C : Cx) : GV C (Str.ofString "first_sixel_colour") (.ref 65) := gvr rfl
theorem gv_hue (C : Cx) : GV C (Str.ofString "sixel_parts_of_hue") (.ref 70) := gvr rfl
theorem gv_Reader (C : Cx) : GV C (Str.ofString "SixelReader") (.ref 118) := gvr rfl
theorem gv_read (C : Cx) : GV C (Str.ofString "read_sixel") (.ref 130) := gvr rfl
theorem gv_next (C : Cx) : GV C (Str.ofString "_law_next") (.ref 154) := gvr rfl
theorem gv_figures (C : Cx) : GV C (Str.ofString "_law_figures") (.ref 161) := gvr rfl
theorem gv_piece (C : Cx) : GV C (Str.ofString "_law_piece") (.ref 166) := gvr rfl
theorem gv_numbers (C : Cx) : GV C (Str.ofString "_law_numbers") (.ref 171) := gvr rfl
theorem gv_sign (C : Cx) : GV C (Str.ofString "_law_sign") (.ref 178) := gvr rfl
theorem gv_command (C : Cx) : GV C (Str.ofString "_law_command") (.ref 183) := gvr rfl
theorem gv_lread (C : Cx) : GV C (Str.ofString "_law_read") (.ref 190) := gvr rfl
theorem gv_shown (C : Cx) : GV C (Str.ofString "_law_shown") (.ref 195) := gvr rfl
theorem gv_FIRST (C : Cx) : GV C (Str.ofString "SIXEL_FIRST") (.int 63) := gvi rfl
theorem gv_LAST (C : Cx) : GV C (Str.ofString "SIXEL_LAST") (.int 126) := gvi rfl
theorem gv_BAND (C : Cx) : GV C (Str.ofString "SIXEL_BAND") (.int 6) := gvi rfl
theorem gv_COLOURS (C : Cx) : GV C (Str.ofString "SIXEL_COLOURS") (.int 256) := gvi rfl
theorem gv_GREATEST (C : Cx) : GV C (Str.ofString "SIXEL_GREATEST") (.int 32767) := gvi rfl
theorem gv_REPEAT (C : Cx) : GV C (Str.ofString "SIXEL_REPEAT") (.int 33) := gvi rfl
theorem gv_SIZE (C : Cx) : GV C (Str.ofString "SIXEL_SIZE") (.int 34) := gvi rfl
theorem gv_COLOUR (C : Cx) : GV C (Str.ofString "SIXEL_COLOUR") (.int 35) := gvi rfl
theorem gv_BACK (C : Cx) : GV C (Str.ofString "SIXEL_BACK") (.int 36) := gvi rfl
theorem gv_NEXT_BAND (C : Cx) : GV C (Str.ofString "SIXEL_NEXT_BAND") (.int 45) := gvi rfl
theorem gv_SEMICOLON (C : Cx) : GV C (Str.ofString "SIXEL_SEMICOLON") (.int 59) := gvi rfl
theorem gv_NO_POINT (C : Cx) : GV C (Str.ofString "SIXEL_NO_POINT") (.int (-1)) := gvi rfl
theorem gv_MOST_NUMBERS (C : Cx) : GV C (Str.ofString "SIXEL_MOST_NUMBERS") (.int 8) := gvi rfl
theorem cls_reader (C : Cx) : Cls C 118 := ⟨rfl, rfl, rfl, rfl, rfl⟩
theorem cls_raster (C : Cx) : Cls C 54 := ⟨rfl, rfl, rfl, rfl, rfl⟩
end Mine
end
section
open PySem PySem.W PySem.Calls PyProof.Rows
namespace Mine
theorem mulOk {i j : Int} (h1 : -1000000000 ≤ j) (h2 : j ≤ 1000000000) : IntMulOk i j := by
  refine .of_right ?_
  unfold Builtin.Int.intBits
  split
  · decide
  · rename_i h
    have hj : j.natAbs ≠ 0 := by intro q; apply h; have : j = 0 := by omega
                                 rw [this]; rfl
    have := (Nat.log2_lt hj (k := 32)).mpr (by omega)
    omega
theorem dec_split {p : Prop} [Decidable p] {X Y : Prop} (h1 : p → X) (h2 : ¬ p → Y) : (decide p = true → X) ∧ (decide p = false → Y) := ⟨fun h => h1 (of_decide_eq_true h), fun h => h2 (of_decide_eq_false h)⟩
theorem next_is {X Y : Prop} (h : X) : ((AF.next = .next) → X) ∧ ((AF.next ≠ .next) → Y) := ⟨fun _ => h, fun q => (q rfl).elim⟩
theorem ret_is {v : AV} {X Y : Prop} (h : Y) : ((AF.ret v = .next) → X) ∧ ((AF.ret v ≠ .next) → Y) := ⟨fun q => (nomatch q), fun _ => h⟩
inductive Pick (e : Ent) : List Ent → List Ent → Prop
  | head {l} : Pick e (e :: l) l
  | tail {x l l'} : Pick e l l' → Pick e (x :: l) (x :: l')
theorem Pick.perm {e : Ent} {l l' : List Ent} (h : Pick e l l') : l.Perm (e :: l') := by
  induction h with
  | head => exact List.Perm.refl _
  | tail _ ih => exact (ih.cons _).trans (List.Perm.swap _ _ _)
theorem Gives.cons {e : Ent} {l l' : List Ent} (g : Gives l l') : Gives (e :: l) (e :: l') := by
  induction g with
  | perm p => exact .perm (p.cons _)
  | sub p => exact .sub (p.cons_cons _)
  | trans _ _ i j => exact .trans i j
theorem Gives.pick {e : Ent} {l l' r : List Ent} (h : Pick e l l') (g : Gives l' r) : Gives l (e :: r) := .trans (.perm h.perm) g.cons
section
variable {C : Cx} {A : Around} {l l' : List Ent} {env : Env}
noncomputable def Imp {β : Type} (Φ Ψ : β → List Ent → Prop) : Prop := ∀ x l', Φ x l' → Ψ x l'
theorem Imp.use {β : Type} {Φ Ψ : β → List Ent → Prop} {x : β} {l : List Ent} (h : Imp Φ Ψ) (k : Φ x l) : Ψ x l := h x l k
theorem Wr.hide {α β : Type} {rel : PH → β → α → Prop} {t : Sem α} {Φ : β → List Ent → Prop} (h : ∀ Ψ : β → List Ent → Prop, Imp Φ Ψ → Wr C A rel l t Ψ) : Wr C A rel l t Φ := h Φ fun _ _ k => k
theorem tr_is {p : Prop} [Decidable p] {t : Sem Bool} {Φ : Bool → List Ent → Prop} (h : WB C A l t fun c l' => c = decide p ∧ l' = l) (k : Φ (decide p) l) : WB C A l t Φ := h.mono fun _ _ ⟨e1, e2⟩ => by subst e1 e2; exact k
theorem Wr.gives {α β : Type} {rel : PH → β → α → Prop} {t : Sem α} {Φ : β → List Ent → Prop} (g : Gives l l') (h : Wr C A rel l' t Φ) : Wr C A rel l t Φ := fun R f s S => h R f s (g.st S)
theorem Wn.gives {α β : Type} {rel : PH → β → α → Prop} {xs : List AV} {t : List Value → Sem α} {Φ : β → List Ent → Prop} (g : Gives l l') (h : Wn C A rel l' xs t Φ) : Wn C A rel l xs t Φ := fun R f s vs S hv => h R f s vs (g.st S) hv
end
end Mine
end
section
open PySem PySem.W PySem.Calls PyProof.Rows
namespace Mine
section
variable {C : Cx} {A : Around} {n : Nat}
noncomputable abbrev MapE (cenv : Env) (names : List Str) (x : AV) (l₁ : List Ent) : AV → List Ent → Prop := fun w l₃ => w = x ∧ ∃ vals, Gives l₃ (ns cenv.locals names vals :: l₁)
noncomputable abbrev MapP (γ : Type) (C : Cx) (A : Around) (sc : Scope) (cl' : List (Str × Addr)) (scope : Scope) (names : List Str) (target elt : Expr) (Φ : AV → List Ent → Prop) : AV → List Ent → Prop := fun x l₁ => ∃ (k : SK) (zs : List γ) (e g : γ → AV), SrcOf C l₁ k x (zs.map e) ∧ zs.length ≤ 100000 ∧
      (∀ cenv, EnvIs (relabelS scope sc) cl' cenv → ∀ z ∈ zs, W1 C A isEq (ns cenv.locals names (names.map fun _ => none) :: l₁) (e z) (fun v => assign target cenv v) (EvalP C A cenv elt (MapE cenv names (g z) l₁))) ∧
      ∀ a, Φ (.ref a) (lst a (zs.map g) :: l₁)
theorem ev_map {γ : Type} {sc : Scope} {cl : List (Str × Addr)} (cl' : List (Str × Addr)) {env : Env} {l : List Ent} {elt target iter : Expr} {scope : Scope} {pos : Pos} (names : List Str) {Φ : AV → List Ent → Prop} (r : Room A n) (E : EnvIs sc cl env)
    (hclos : closS scope.names cl [] = some cl') (hcell : ∀ y ∈ scope.names, y.2 ≠ .cell) (hkind : scope.kind = .function) (hnames : ∀ y ∈ scope.names, y.2 = .local → scope.names.lookup y.1 = some .local) (hnd : names.Nodup)
    (h : W C A l (eval iter env) (MapP γ C A sc cl' scope names target elt Φ))
    (hs : ∀ x, foldedSetIterable iter env x = pure x := by intro _; rfl) (ht : ∀ it v, letOwnedTupleGo target it v = pure () := by intro _ _; rfl) :
    W C A l (eval (.ListComp elt [⟨target, iter, [], 0⟩] scope pos) env) Φ := by
  refine ev_comp1 r E hclos hcell hkind hnames hnd (h.mono fun x l₁ hh => ?_) hs ht
  obtain ⟨k, zs, e, g, src, hz, turn, fin⟩ := hh
  refine ⟨k, zs.map e, fun i ys l' => ys = (zs.take i).map g ∧ l' = l₁, src, by rw [List.length_map]; exact hz, ⟨rfl, rfl⟩, fun cenv Ec i y ys l' hy hI => ?_, fun ys l' hI hl => ?_⟩
  · obtain ⟨rfl, rfl⟩ := hI
    rw [List.getElem?_map] at hy
    obtain ⟨z, hz', rfl⟩ := Option.map_eq_some_iff.mp hy
    refine ⟨src, fun R f s v S hv => wpAny_mono (turn cenv Ec z (List.mem_of_getElem? hz') R f s v S hv) (fun _ _ hh => ?_) fun _ _ e => e⟩
    obtain ⟨f', x', l'', a, b, c, d⟩ := hh
    refine ⟨f', x', l'', a, b, c, d.mono fun w l₃ hh => ?_⟩
    obtain ⟨rfl, vals, hg⟩ := hh
    refine ⟨vals, l', hg, ?_, rfl⟩
    rw [List.take_add_one, hz', List.map_append]; rfl
  · obtain ⟨rfl, rfl⟩ := hI
    rw [List.length_map, List.take_length]
    exact ⟨src, fin⟩
end
end Mine
end
section
open PySem PySem.W PySem.Calls PyProof.Rows
namespace Mine
theorem dput_map {K γ δ : Type} [DecidableEq K] (g : γ → δ) (kv : List (K × γ)) (k : K) (v : γ) : dput (kv.map fun q => (q.1, g q.2)) k (g v) = (dput kv k v).map fun q => (q.1, g q.2) := by
  unfold dput
  rw [List.any_map]
  show (if (kv.any fun p => decide (p.1 = k)) = true then _ else _) = _
  split
  · rw [List.map_map, List.map_map]
    apply List.map_congr_left
    intro p _
    show (if p.1 = k then (p.1, g v) else (p.1, g p.2)) = ((fun q : K × γ => (q.1, g q.2)) (if p.1 = k then (p.1, v) else p))
    split <;> rfl
  · rw [List.map_append]; rfl
theorem dget_map {K γ δ : Type} [DecidableEq K] (g : γ → δ) (kv : List (K × γ)) (k : K) : dget (kv.map fun q => (q.1, g q.2)) k = (dget kv k).map g := by
  unfold dget
  induction kv with
  | nil => rfl
  | cons p r ih =>
    rw [List.map_cons, List.find?_cons, List.find?_cons]
    dsimp only
    cases decide (p.1 = k) with
    | true => rfl
    | false => exact ih
inductive LookK {K γ : Type} (k : K) (x : γ) : List (K × γ) → Prop
  | head {r : List (K × γ)} : LookK k x ((k, x) :: r)
  | tail {p : K × γ} {r : List (K × γ)} : LookK k x r → LookK k x (p :: r)
inductive SetK {K γ : Type} (k : K) (x : γ) : List (K × γ) → List (K × γ) → Prop
  | head {y : γ} {r : List (K × γ)} : SetK k x ((k, y) :: r) ((k, x) :: r)
  | tail {p : K × γ} {r r' : List (K × γ)} : SetK k x r r' → SetK k x (p :: r) (p :: r')
section
variable {K γ : Type} [DecidableEq K]
theorem LookK.mem {k : K} {x : γ} {kv : List (K × γ)} (h : LookK k x kv) : k ∈ kv.map (·.1) := by
  induction h with
  | head => exact .head _
  | tail _ ih => exact .tail _ ih
theorem LookK.get {k : K} {x : γ} {kv : List (K × γ)} (h : LookK k x kv) (hn : (kv.map (·.1)).Nodup) : dget kv k = some x := by
  unfold dget
  induction h with
  | head => rw [List.find?_cons]; dsimp only; rw [decide_eq_true rfl]; rfl
  | @tail p r h ih =>
    rw [List.map_cons, List.nodup_cons] at hn
    rw [List.find?_cons, decide_eq_false (fun e : p.1 = k => hn.1 (by rw [e]; exact h.mem))]
    exact ih hn.2
theorem SetK.mem {k : K} {x : γ} {kv kv' : List (K × γ)} (h : SetK k x kv kv') : k ∈ kv.map (·.1) := by
  induction h with
  | head => exact .head _
  | tail _ ih => exact .tail _ ih
theorem map_other {kv : List (K × γ)} {k : K} {x : γ} (h : k ∉ kv.map (·.1)) : (kv.map fun p => if p.1 = k then (p.1, x) else p) = kv := by
  induction kv with
  | nil => rfl
  | cons p r ih =>
    rw [List.map_cons, List.mem_cons, not_or] at h
    rw [List.map_cons, if_neg (fun e => h.1 e.symm), ih h.2]
theorem SetK.put {k : K} {x : γ} {kv kv' : List (K × γ)} (h : SetK k x kv kv') (hn : (kv.map (·.1)).Nodup) : dput kv k x = kv' := by
  unfold dput
  obtain ⟨p, hp, e⟩ := List.mem_map.mp h.mem
  rw [if_pos (List.any_eq_true.mpr ⟨p, hp, decide_eq_true e⟩)]
  clear hp e p
  induction h with
  | @head y r => rw [List.map_cons, List.nodup_cons] at hn; rw [List.map_cons, if_pos rfl, map_other hn.1]
  | @tail p r r' h ih =>
    rw [List.map_cons, List.nodup_cons] at hn
    rw [List.map_cons, if_neg (fun e : p.1 = k => hn.1 (by rw [e]; exact h.mem)), ih hn.2]
end
section
variable {C : Cx} {A : Around} {n : Nat} {l l' : List Ent} {env : Env}
theorem gi_dicS {value slice : Expr} {a : Addr} {kv : List (Str × AV)} {k : Str} {x : AV} {Φ : AV → List Ent → Prop} (hm : dicS C a kv ∈ l) (hx : LookK k x kv) (h : Φ x l) :
    W2 C A Is l (.ref a) (.str k) (fun o i => subscriptTail value slice o i) Φ := fun R f s v u S hv hu => by
  obtain ⟨_, kvs, _, hp, hn⟩ := S.dic (List.mem_append_left R hm)
  exact gi_dict hm (keyS k) (hx.get (by rw [← hp.keys]; exact hn)) h R f s v u S hv hu
theorem si_dicS {a : Addr} {kv kv' : List (Str × AV)} {k : Str} {x : AV} {Φ : Unit → List Ent → Prop} (U : Upd1 (dicS C a kv) (dicS C a kv') l l') (hx : SetK k x kv kv') (hz : kv.length ≤ 100000) (h : Φ () l') :
    W3 C A isEq l (.ref a) (.str k) x (fun o i v => setItem o i v) Φ := fun R f s v u w S hv hu hw => by
  obtain ⟨_, kvs, _, hp, hn⟩ := S.dic (List.mem_append_left R U.mem)
  have e := hx.put (by rw [← hp.keys]; exact hn)
  exact si_dict (by rw [e]; exact U) (keyS k) hz h R f s v u w S hv hu hw
theorem si_dicN {a : Addr} {kv : List (Str × AV)} {k : Str} {x : AV} {Φ : Unit → List Ent → Prop} (U : Upd1 (dicS C a kv) (dicS C a (kv ++ [(k, x)])) l l') (hx : k ∉ kv.map (·.1)) (hz : kv.length ≤ 100000) (h : Φ () l') :
    W3 C A isEq l (.ref a) (.str k) x (fun o i v => setItem o i v) Φ := fun R f s v u w S hv hu hw =>
  si_dict (by rw [dput_new hx]; exact U) (keyS k) hz h R f s v u w S hv hu hw
end
theorem EnvIs.inter {sc : Scope} {cl : List (Str × Addr)} {env : Env} (E : EnvIs sc cl env) (h : sc.kind = .function) : interactive env = false := by
  obtain ⟨e1, e2, e3, e4⟩ := E
  obtain ⟨s, L, G, B, Ce, Co, Fr⟩ := env
  dsimp only at e1
  subst e1
  unfold interactive
  simp [h]
theorem len1 {α : Type} {vs : List α} (h : vs.length = 1) : ∃ x, vs = [x] := by
  cases vs with
  | nil => cases h
  | cons x r => cases r with
    | nil => exact ⟨x, rfl⟩
    | cons _ _ => cases h
theorem len2 {α : Type} {vs : List α} (h : vs.length = 2) : ∃ x y, vs = [x, y] := by
  cases vs with
  | nil => cases h
  | cons x r =>
    obtain ⟨y, rfl⟩ := len1 (Nat.succ.inj h)
    exact ⟨x, y, rfl⟩
theorem len3 {α : Type} {vs : List α} (h : vs.length = 3) : ∃ x y z, vs = [x, y, z] := by
  cases vs with
  | nil => cases h
  | cons x r =>
    obtain ⟨y, z, rfl⟩ := len2 (Nat.succ.inj h)
    exact ⟨x, y, z, rfl⟩
theorem len4 {α : Type} {vs : List α} (h : vs.length = 4) : ∃ x y z u, vs = [x, y, z, u] := by
  cases vs with
  | nil => cases h
  | cons x r =>
    obtain ⟨y, z, u, rfl⟩ := len3 (Nat.succ.inj h)
    exact ⟨x, y, z, u, rfl⟩
theorem len6 {α : Type} {vs : List α} (h : vs.length = 6) : ∃ x y z u v w, vs = [x, y, z, u, v, w] := by
  cases vs with
  | nil => cases h
  | cons x r => cases r with
    | nil => cases h
    | cons y r =>
      obtain ⟨z, u, v, w, rfl⟩ := len4 (Nat.succ.inj (Nat.succ.inj h))
      exact ⟨x, y, z, u, v, w, rfl⟩
structure RB (a b : Int) : Prop where
  a0 : -100000 ≤ a
  a1 : a ≤ 100000
  b0 : -100000 ≤ b
  b1 : b ≤ 100000
theorem RB.of0 {b : Int} (h0 : 0 ≤ b) (h1 : b ≤ 100000) : RB 0 b := ⟨by decide, by decide, by omega, h1⟩
theorem SrcOf.rng {C : Cx} {l : List Ent} {r : Addr} {a b : Int} (h : Mine.rng r a b ∈ l) (k : RB a b) : SrcOf C l (.range a b) (.ref r) ((rangeInts a 1 (b - a).toNat).map .int) := .range h k.a0 k.a1 k.b0 k.b1
end Mine
end
section
open PySem PySem.W PySem.Calls PyProof.Rows
namespace Mine
section
variable {C : Cx} {A : Around} {n : Nat}
noncomputable abbrev CompC (C : Cx) (A : Around) (sc : Scope) (cl' : List (Str × Addr)) (scope : Scope) (names : List Str) (cellN : Str) (target elt : Expr) (Φ : AV → List Ent → Prop) : AV → List Ent → Prop := fun y l₁ => ∃ k xs, ∃ Inv : Addr → Nat → List AV → List Ent → Prop, SrcOf C l₁ k y xs ∧ xs.length ≤ 100000 ∧ (∀ c, Inv c 0 [] (cel c none :: l₁)) ∧
      (∀ cenv c, EnvIs (relabelS scope sc) ((cellN, c) :: cl') cenv → ∀ i z ys l, xs[i]? = some z → Inv c i ys l → SrcOf C l k y xs ∧ W1 C A isEq (ns cenv.locals names (names.map fun _ => none) :: l) z (fun v => assign target cenv v) (EvalP C A cenv elt (EltP cenv names (Inv c (i + 1)) ys))) ∧
      (∀ c ys l, Inv c xs.length ys l → ys.length = xs.length → SrcOf C l k y xs ∧ ∀ a, Φ (.ref a) (lst a ys :: l))
theorem ex_assign_compC {sc : Scope} {cl cl' : List (Str × Addr)} {env : Env} {l : List Ent} {elt target iter : Expr} {scope : Scope} {pos py spos : Pos} {names : List Str} {cellN x : Str} {rest : List Stmt} {Φ : AF → List Ent → Prop} (r : Room A n) (E : EnvIs sc cl env)
    (hclos : closS scope.names cl [] = some cl') (hce : ∀ k acc, cellsFrom k scope.names acc = (cellN, k) :: acc) (hpc : ∀ h : Heap, pushCells h scope.names = h.push { cls := .type "cell", data := .cell none }) (hkind : scope.kind = .function)
    (hnames : ∀ y ∈ scope.names, y.2 = .local → scope.names.lookup y.1 = some .local) (hnd : names.Nodup)
    (h : W C A l (eval iter env) (CompC C A sc cl' scope names cellN target elt (StoreP C A env x rest Φ)))
    (hsw : swapsWith (.ListComp elt [⟨target, iter, [], 0⟩] scope pos) (some (.Name x py)) spos.line env = pure true)
    (hs : ∀ x, foldedSetIterable iter env x = pure x := by intro _; rfl) (ht : ∀ it v, letOwnedTupleGo target it v = pure () := by intro _ _; rfl) :
    WF C A l (execs (.Assign [.Name x py] (.ListComp elt [⟨target, iter, [], 0⟩] scope pos) spos :: rest) env) Φ := by
  refine ex_seq fun R f s S => ?_
  rw [exec_Assign_Name_used _ _ _ _ hsw]
  refine wpAny_bind (wpAny_standAt (wpAny_bind ?_))
  show wpAny C.M A (do let _ ← comprehension (.ListComp elt [⟨target, iter, [], 0⟩] scope pos) scope env _ (newList []) false (eval iter env) (some (assign (.Name x py) env))) _ _ s
  refine wpAny_bind (wpAny_mono (wpAny_comprehension_free (use := some (assign (.Name x py) env)) (Q := fun _ s' => Post C IsF f R (fun fl l₁ => fl = .next ∧ WF C A l₁ (execs rest env) Φ) .next s') rfl hs (closureFor_eq E.cells hclos) hkind hnames ?_)
    (fun _ s' hq => wpAny_pure (wpAny_pure hq)) fun _ _ e => e)
  refine h.run S fun f₁ y l₁ v s₁ a₁ S₁ r₁ k₁ => ?_
  obtain ⟨k, xs, Inv, src, hz, i0, turn, fin⟩ := k₁
  refine start_iter r src S₁ r₁ fun it ie s₂ I S₂ => ?_
  refine wpAny_newObj_type ?_ (by size_fits)
  generalize hD : s₂.heap.objs.size = D
  have S₃ : St C f₁ ((lst D [] :: (l₁ ++ ie 0 :: R)) ++ []) { s₂ with heap := s₂.heap.push { cls := .type "list", data := .seq ([] : List Value).toArray } } := by
    rw [← hD]
    exact St.push (R := []) (by rw [List.append_nil]; exact S₂) rfl ⟨#[], 0, rfl, .nil⟩ rfl rfl rfl rfl
  rw [List.append_nil] at S₃
  generalize hH : s₂.heap.push { cls := .type "list", data := .seq ([] : List Value).toArray } = H at S₃ ⊢
  simp only [newFunctionEnv, Option.isSome_some, if_true]
  refine wpAny_bind (wpAny_alloc ?_)
  refine wpAny_bind (wpAny_layCells _ (fun name kind cells => by cases hkc : kind == NameKind.cell <;> simp [hkc]) _ _ _ _ ?_)
  rw [hce, hpc, List.forIn_nil]
  refine wpAny_bind (wpAny_pure (wpAny_pure ?_))
  have S₄ := ns_new (T := "dict") (tk := s₂.toks) (h₁ := H.push { cls := .type "dict", data := .dict #[] }) hnd S₃ (Heap.Ns.new H (.type "dict")) (Heap.SameBut.refl ..)
  have hl : (H.push { cls := .type "dict", data := .dict #[] }).objs.size = H.objs.size + 1 := Heap.size_push ..
  have S₅ : St C f₁ (cel (H.push { cls := .type "dict", data := .dict #[] }).objs.size none :: (ns H.objs.size names (names.map fun _ => none) :: lst D [] :: (l₁ ++ ie 0 :: R)) ++ []) { s₂ with heap := (H.push { cls := .type "dict", data := .dict #[] }).push { cls := .type "cell", data := .cell none } } :=
    St.push (R := []) (s := { s₂ with heap := H.push { cls := .type "dict", data := .dict #[] } }) (by rw [List.append_nil]; exact S₄) rfl ⟨none, rfl, fun _ e => (nomatch e)⟩ rfl rfl rfl rfl
  rw [List.append_nil] at S₅
  generalize hc : (H.push { cls := .type "dict", data := .dict #[] }).objs.size = c at S₅ ⊢
  have S₆ : St C f₁ ((cel c none :: l₁) ++ ie 0 :: ns H.objs.size names (names.map fun _ => none) :: lst D [] :: R) _ :=
    S₅.perm (by
      refine List.Perm.cons _ ?_
      refine List.Perm.trans ?_ (List.perm_middle.symm)
      refine List.Perm.trans ?_ (List.Perm.cons _ (List.perm_middle.symm))
      refine List.Perm.trans ?_ (List.Perm.cons _ (List.Perm.cons _ List.perm_middle.symm))
      exact List.Perm.trans (List.Perm.cons _ (List.Perm.cons _ List.perm_middle)) (List.Perm.trans (List.Perm.cons _ (List.Perm.swap _ _ _)) (List.Perm.swap _ _ _)))
  have Ec := compEnv_is (scope := scope) (cl' := (cellN, c) :: cl') (L := H.objs.size) E
  have loop := comp_loop (elt := elt) (target := target) (iter := iter) (scope := scope) (pos := pos)
    (Rr := compPost C.M A NoE (some (assign (.Name x py) env)) (fun _ s' => Post C IsF f R (fun fl l₁ => fl = .next ∧ WF C A l₁ (execs rest env) Φ) .next s') (.ref D) H.objs.size)
    I hz (turn _ c Ec) (fun ys l inv hl => (fin c ys l inv hl).1) S₆ (i0 c) (fun ys l' f' s' a₂ inv hl S' => by
      have S'' : St C f' ((lst D ys :: l') ++ (ns H.objs.size names (names.map fun _ => none) :: R)) s' :=
        S'.perm (by
          refine List.Perm.trans (List.Perm.append_left _ (List.Perm.swap _ _ _)) ?_
          exact List.perm_middle)
      show wpAny C.M A (assign (.Name x py) env (.ref D)) _ _ s'
      refine wpAny_assign_Name (wpAny_mono ((fin c ys l' inv hl).2 D _ _ _ _ S'' (.ref _)) (fun _ s₃ p₃ => ?_) fun _ _ e => e.elim)
      obtain ⟨f₃, _, l₃, b₃, S₃', _, w₃⟩ := p₃
      obtain ⟨o, ho, m, es, ep, h1, h2, h3, _⟩ := S₃'.midGet
      refine ⟨m, ⟨o, es, ep, ho, h1, h2, h3⟩, fun h' hs => ?_⟩
      have S₄' : St C f₃ (l₃ ++ R) { s₃ with heap := h' } := S₃'.gone (e := ns _ names _) hs.extBut rfl rfl rfl
      exact ⟨f₃, .next, l₃, (a₁.trans a₂).trans b₃, S₄', .next, rfl, w₃⟩) ht
  exact codeAny_compStart_list loop (wpAny_mono (I.self (Q := fun it' s' => codeAny C.M A (.compLoop (.ListComp elt [⟨target, iter, [], 0⟩] scope pos) 0 it' _ _) _ s') S₆ loop) (fun _ _ q => q) fun _ _ e => e.elim)
end
end Mine
end
section
open PySem PySem.W PySem.Calls PyProof.Rows
namespace Mine
theorem clamp_spec {C : Cx} {A : Around} {n : Nat} {l : List Ent} {v a b : Int} {Φ : AV → List Ent → Prop} (r : Room A (n + 1)) (h : Φ (.int (max a (min v b))) l) :
    Wn C A Is l [.int v, .int a, .int b] (fun vs => call (.ref 28) vs) Φ := by
  have ho : (Kf C).lookup 28 = some _ := rfl
  refine call_plain (fd := _) (body := _) (params := [Str.ofString "value", Str.ofString "least", Str.ofString "most"]) (rest := []) (names := [Str.ofString "value", Str.ofString "least", Str.ofString "most"]) (vals := [some (.int v), some (.int a), some (.int b)]) (n := n)
    ⟨⟨_, C.kin _ _ ho, rfl⟩, codeRec_of C.kin rfl, rfl, rfl, rfl, rfl, rfl, rfl, rfl⟩ r (fun s vs _ hl => ?_) (by rfl) (by rfl) rfl (by decide) rfl rfl fun env E r' => ?_
  · obtain ⟨x, y, z, rfl⟩ := len3 hl
    exact .of_eq rfl
  · have hT := E.loc (names := [Str.ofString "value", Str.ofString "least", Str.ofString "most"]) rfl (by rfl)
    have hG := E.glob (names := [Str.ofString "min", Str.ofString "max"]) rfl (by rfl)
    refine ex_ret ?_
    refine ev_callB (ev_glob (by assumption) (.tail _ (.head _)) (gv_max _) ⟨_, rfl, ?_⟩)
    refine ar_cons ?_
    refine ev_loc (by assumption) (.head _) (.tail .head) ?_
    refine ar_cons ?_
    refine ev_callB (ev_glob (by assumption) (.head _) (gv_min _) ⟨_, rfl, ?_⟩)
    refine ar_cons ?_
    refine ev_loc (by assumption) (.head _) .head ?_
    refine ar_cons ?_
    refine ev_loc (by assumption) (.head _) (.tail (.tail .head)) ?_
    refine ar_nil ?_
    refine b_min (by assumption) ?_
    refine ar_nil ?_
    refine b_max (by assumption) ?_
    exact ⟨_, _, .ret, .tail, h⟩
noncomputable def pal : List (List Int) := [[0, 0, 0], [20, 20, 80], [80, 13, 13], [20, 80, 20], [80, 20, 80], [20, 80, 80], [80, 80, 20], [53, 53, 53], [26, 26, 26], [33, 33, 60], [60, 26, 26], [33, 60, 33], [60, 33, 60], [33, 60, 60], [60, 60, 33], [80, 80, 80]]
noncomputable def triA (c : List Int) : AV := .tup (c.map .int)
noncomputable def firstCol (n : Int) : List Int := pal.getD (n % 16).toNat []
theorem pal_len : pal.length = 16 := by decide
theorem pal_at (n : Int) : At (pal.map triA) (n % 16) (triA (firstCol n)) := by
  have h0 : 0 ≤ n % 16 := Int.emod_nonneg n (by decide)
  have h1 : n % 16 < 16 := Int.emod_lt_of_pos n (by decide)
  refine .pos h0 ?_
  rw [List.getElem?_map]
  unfold firstCol
  have h : (n % 16).toNat < pal.length := by rw [pal_len]; omega
  rw [List.getElem?_eq_getElem h, List.getD_eq_getElem?_getD, List.getElem?_eq_getElem h]; rfl
theorem ev_tri {C : Cx} {A : Around} {l : List Ent} {env : Env} {a b c : Int} {k₁ k₂ k₃ k : Nat} {p₁ p₂ p₃ pos : Pos} {Φ : AV → List Ent → Prop} (h : Φ (triA [a, b, c]) l) :
    W C A l (eval (.Tuple [.Constant (.int a) k₁ p₁, .Constant (.int b) k₂ p₂, .Constant (.int c) k₃ p₃] k pos) env) Φ := by
  refine ev_tup ?_
  refine ar_cons ?_
  refine ev_int ?_
  refine ar_cons ?_
  refine ev_int ?_
  refine ar_cons ?_
  refine ev_int ?_
  refine ar_nil ?_
  exact ⟨Nat.le_of_ble_eq_true rfl, h⟩
set_option maxRecDepth 20000 in
theorem first_spec {C : Cx} {A : Around} {n : Nat} {l : List Ent} {v : Int} {Φ : AV → List Ent → Prop} (r : Room A (n + 1)) (h : Φ (triA (firstCol v)) l) :
    Wn C A Is l [.int v] (fun vs => call (.ref 65) vs) Φ := by
  have ho : (Kf C).lookup 65 = some _ := rfl
  refine call_plain (fd := _) (body := _) (params := [Str.ofString "number"]) (rest := [Str.ofString "palette"]) (names := [Str.ofString "number", Str.ofString "palette"]) (vals := [some (.int v), none]) (n := n)
    ⟨⟨_, C.kin _ _ ho, rfl⟩, codeRec_of C.kin rfl, rfl, rfl, rfl, rfl, rfl, rfl, rfl⟩ r (fun s vs _ hl => ?_) (by rfl) (by rfl) rfl (by decide) rfl rfl fun env E r' => ?_
  · obtain ⟨x, rfl⟩ := len1 hl
    exact .of_eq rfl
  · have hT := E.loc (names := [Str.ofString "number", Str.ofString "palette"]) rfl (by rfl)
    have hG := E.glob (names := [Str.ofString "len"]) rfl (by rfl)
    refine ex_assign ?_
    refine ev_tup ?_
    iterate 16 (refine ar_cons ?_; refine ev_tri ?_)
    refine ar_nil ?_
    refine ⟨Nat.le_of_ble_eq_true rfl, ?_⟩
    refine st_loc (by assumption) (.head) ((.tail .head)) ?_
    refine ex_ret ?_
    refine ev_sub ?_
    refine ev_loc (by assumption) (.head _) (.tail .head) ?_
    refine ev_bin ?_
    refine ev_loc (by assumption) (.head _) .head ?_
    refine ev_callB (ev_glob (by assumption) (.head _) (gv_len _) ⟨_, rfl, ?_⟩)
    refine ar_cons ?_
    refine ev_loc (by assumption) (.head _) (.tail .head) ?_
    refine ar_nil ?_
    refine b_len_tup ?_ ?_
    · exact Nat.le_of_ble_eq_true rfl
    refine o2_mod (by decide) ?_
    refine gi_tup (x := triA (firstCol v)) (pal_at v) ?_ ?_
    · exact Nat.le_of_ble_eq_true rfl
    exact ⟨_, _, .ret, .tail, h⟩
end Mine
end
section
open PySem PySem.W PySem.Calls PyProof.Rows
namespace Mine
structure RS where
  pts : List (Int × Int)
  cols : List (Int × List Int)
  asp : Int × Int
  told : Option (Int × Int)
  column : Int
  band : Int
  colour : Int
  width : Int
  bands : Int
  many : Int
  command : Int
  nums : List Int
noncomputable def ptsA (p : List (Int × Int)) : List (Int × AV) := p.map fun q => (q.1, .int q.2)
noncomputable def colsA (p : List (Int × List Int)) : List (Int × AV) := p.map fun q => (q.1, triA q.2)
noncomputable def pairA (p : Int × Int) : AV := .tup [.int p.1, .int p.2]
noncomputable def toldA : Option (Int × Int) → AV
  | none => .none
  | some p => pairA p
noncomputable abbrev RN : List Str := [Str.ofString "most", Str.ofString "points", Str.ofString "colours", Str.ofString "aspect", Str.ofString "told", Str.ofString "column", Str.ofString "band", Str.ofString "colour", Str.ofString "width", Str.ofString "bands", Str.ofString "many", Str.ofString "command", Str.ofString "numbers"]
noncomputable abbrev RV (most : Int) (S : RS) (dp dc ln : Addr) : List (Option AV) := [some (.int most), some (.ref dp), some (.ref dc), some (pairA S.asp), some (toldA S.told), some (.int S.column), some (.int S.band), some (.int S.colour), some (.int S.width), some (.int S.bands), some (.int S.many), some (.int S.command), some (.ref ln)]
noncomputable abbrev rdr (C : Cx) (most : Int) (a d dp dc ln : Addr) (S : RS) (l : List Ent) : List Ent := ins a 118 d :: att d RN (RV most S dp dc ln) :: dicI C dp (ptsA S.pts) :: dicI C dc (colsA S.cols) :: lst ln (S.nums.map .int) :: l
noncomputable def RS0 : RS := ⟨[], [], (1, 1), none, 0, 0, 0, 0, 0, 1, 0, []⟩
theorem init_spec {C : Cx} {A : Around} {n : Nat} {l : List Ent} {m most : Int} {Φ : AV → List Ent → Prop} (r : Room A (n + 4)) (hm : most = max 0 (min m 32767))
    (h : ∀ a d dp dc ln, Φ (.ref a) (rdr C most a d dp dc ln RS0 l)) : Wn C A Is l [.int m] (fun vs => call (.ref 118) vs) Φ := by
  have ho : (Kf C).lookup 84 = some _ := rfl
  have hK := cls_reader C
  refine make_inst (fd := _) (body := _) (params := [Str.ofString "self", Str.ofString "most"]) (rest := []) (names := [Str.ofString "self", Str.ofString "most"]) (anames := RN) (vals := [some (.int m)]) (n := n + 2)
    ⟨⟨_, C.kin _ _ ho, rfl⟩, codeRec_of C.kin rfl, rfl, rfl, rfl, rfl, rfl, rfl, rfl⟩ r rfl rfl rfl (fun s vs _ hl => ?_) rfl rfl rfl (by decide) rfl (fun _ => rfl) (by decide) (by decide) fun B env a d E r' => ?_
  · obtain ⟨x, y, rfl⟩ := len2 hl
    exact .of_eq rfl
  · clear ho
    have hT := E.loc (names := [Str.ofString "self", Str.ofString "most"]) rfl rfl
    have hG := E.glob (names := [Str.ofString "clamp", Str.ofString "SIXEL_GREATEST"]) rfl rfl
    show WF C B (ns env.locals [Str.ofString "self", Str.ofString "most"] [some (.ref a), some (.int m)] :: ins a 118 d :: att d RN [none, none, none, none, none, none, none, none, none, none, none, none, none] :: l) _ _
    refine ex_attr ?_
    refine ev_callK (ev_glob (by assumption) (.head _) (gv_clamp _) ⟨_, rfl, rfl, ?_⟩)
    refine ar_cons ?_
    refine ev_loc (by assumption) (.head _) (.tail .head) ?_
    refine ar_cons ?_
    refine ev_int ?_
    refine ar_cons ?_
    refine ev_glob (by assumption) (.tail _ (.head _)) (gv_GREATEST _) ?_
    refine ar_nil ?_
    refine clamp_spec r' ?_
    rw [← hm]
    refine ev_loc (by assumption) (.head _) .head ?_
    refine sa_inst (by assumption) (.tail _ (.head _)) ((.tail (.tail .head))) (.head) rfl ?_
    refine ex_attr ?_
    refine ev_dict0 (intKind prg C.w) fun dp => ?_
    refine ev_loc (by assumption) (.tail _ (.head _)) .head ?_
    refine sa_inst (by assumption) (.tail _ (.tail _ (.head _))) ((.tail (.tail (.tail .head)))) ((.tail .head)) rfl ?_
    refine ex_attr ?_
    refine ev_dict0 (intKind prg C.w) fun dc => ?_
    refine ev_loc (by assumption) (.tail _ (.tail _ (.head _))) .head ?_
    refine sa_inst (by assumption) (.tail _ (.tail _ (.tail _ (.head _)))) ((.tail (.tail (.tail (.tail .head))))) ((.tail (.tail .head))) rfl ?_
    refine ex_attr ?_
    refine ev_tup ?_
    refine ar_cons ?_
    refine ev_int ?_
    refine ar_cons ?_
    refine ev_int ?_
    refine ar_nil ?_
    refine ⟨Nat.le_of_ble_eq_true rfl, ?_⟩
    refine ev_loc (by assumption) (.tail _ (.tail _ (.head _))) .head ?_
    refine sa_inst (by assumption) (.tail _ (.tail _ (.tail _ (.head _)))) ((.tail (.tail (.tail (.tail .head))))) ((.tail (.tail (.tail .head)))) rfl ?_
    refine ex_attr ?_
    refine ev_none ?_
    refine ev_loc (by assumption) (.tail _ (.tail _ (.head _))) .head ?_
    refine sa_inst (by assumption) (.tail _ (.tail _ (.tail _ (.head _)))) ((.tail (.tail (.tail (.tail .head))))) ((.tail (.tail (.tail (.tail .head))))) rfl ?_
    refine ex_attr ?_
    refine ev_int ?_
    refine ev_loc (by assumption) (.tail _ (.tail _ (.head _))) .head ?_
    refine sa_inst (by assumption) (.tail _ (.tail _ (.tail _ (.head _)))) ((.tail (.tail (.tail (.tail .head))))) ((.tail (.tail (.tail (.tail (.tail .head)))))) rfl ?_
    refine ex_attr ?_
    refine ev_int ?_
    refine ev_loc (by assumption) (.tail _ (.tail _ (.head _))) .head ?_
    refine sa_inst (by assumption) (.tail _ (.tail _ (.tail _ (.head _)))) ((.tail (.tail (.tail (.tail .head))))) ((.tail (.tail (.tail (.tail (.tail (.tail .head))))))) rfl ?_
    refine ex_attr ?_
    refine ev_int ?_
    refine ev_loc (by assumption) (.tail _ (.tail _ (.head _))) .head ?_
    refine sa_inst (by assumption) (.tail _ (.tail _ (.tail _ (.head _)))) ((.tail (.tail (.tail (.tail .head))))) ((.tail (.tail (.tail (.tail (.tail (.tail (.tail .head)))))))) rfl ?_
    refine ex_attr ?_
    refine ev_int ?_
    refine ev_loc (by assumption) (.tail _ (.tail _ (.head _))) .head ?_
    refine sa_inst (by assumption) (.tail _ (.tail _ (.tail _ (.head _)))) ((.tail (.tail (.tail (.tail .head))))) ((.tail (.tail (.tail (.tail (.tail (.tail (.tail (.tail .head))))))))) rfl ?_
    refine ex_attr ?_
    refine ev_int ?_
    refine ev_loc (by assumption) (.tail _ (.tail _ (.head _))) .head ?_
    refine sa_inst (by assumption) (.tail _ (.tail _ (.tail _ (.head _)))) ((.tail (.tail (.tail (.tail .head))))) ((.tail (.tail (.tail (.tail (.tail (.tail (.tail (.tail (.tail .head)))))))))) rfl ?_
    refine ex_attr ?_
    refine ev_int ?_
    refine ev_loc (by assumption) (.tail _ (.tail _ (.head _))) .head ?_
    refine sa_inst (by assumption) (.tail _ (.tail _ (.tail _ (.head _)))) ((.tail (.tail (.tail (.tail .head))))) ((.tail (.tail (.tail (.tail (.tail (.tail (.tail (.tail (.tail (.tail .head))))))))))) rfl ?_
    refine ex_attr ?_
    refine ev_int ?_
    refine ev_loc (by assumption) (.tail _ (.tail _ (.head _))) .head ?_
    refine sa_inst (by assumption) (.tail _ (.tail _ (.tail _ (.head _)))) ((.tail (.tail (.tail (.tail .head))))) ((.tail (.tail (.tail (.tail (.tail (.tail (.tail (.tail (.tail (.tail (.tail .head)))))))))))) rfl ?_
    refine ex_attr ?_
    refine ev_list ?_
    refine ar_nil ?_
    refine ⟨Nat.le_of_ble_eq_true rfl, fun ln => ?_⟩
    refine ev_loc (by assumption) (.tail _ (.tail _ (.tail _ (.head _)))) .head ?_
    refine sa_inst (by assumption) (.tail _ (.tail _ (.tail _ (.tail _ (.head _))))) ((.tail (.tail (.tail (.tail (.tail .head)))))) ((.tail (.tail (.tail (.tail (.tail (.tail (.tail (.tail (.tail (.tail (.tail (.tail .head))))))))))))) rfl ?_
    refine ex_nil ?_
    refine ⟨.next, _, ?_, h a d dp dc ln⟩
    exact (.pick (.tail (.tail (.tail (.tail .head)))) (.pick (.tail (.tail (.tail (.tail .head)))) (.pick (.tail (.tail .head)) (.pick (.tail .head) (.pick .head (.tails .rfl))))))
end Mine
end
section
open PySem PySem.W PySem.Calls PyProof.Rows
namespace Mine
noncomputable def chromaI (l s : Int) : Int := (100 - ((2 * l - 100).natAbs : Int)) * s
noncomputable def leastI (l s : Int) : Int := 200 * l - chromaI l s
noncomputable def angleI (h : Int) : Int := (h + 240) % 360
noncomputable def middleI (h l s : Int) : Int := 2 * chromaI l s * (60 - ((angleI h % 120 - 60).natAbs : Int)) / 60
noncomputable def ordersI (h l s : Int) : List (List Int) := [[2 * chromaI l s, middleI h l s, 0], [middleI h l s, 2 * chromaI l s, 0], [0, 2 * chromaI l s, middleI h l s], [0, middleI h l s, 2 * chromaI l s], [middleI h l s, 0, 2 * chromaI l s], [2 * chromaI l s, 0, middleI h l s]]
noncomputable def hueI (h l s : Int) : List Int := ((ordersI h l s).getD (angleI h / 60).toNat []).map fun part => max 0 (min ((part + leastI l s + 100) / 200) 100)
theorem chroma_le {l s : Int} (h1 : 0 ≤ l) (h2 : l ≤ 100) (h3 : 0 ≤ s) (h4 : s ≤ 100) : 0 ≤ chromaI l s ∧ chromaI l s ≤ 10000 := by
  unfold chromaI
  have a : 0 ≤ 100 - ((2 * l - 100).natAbs : Int) := by omega
  have b : 100 - ((2 * l - 100).natAbs : Int) ≤ 100 := by omega
  refine ⟨Int.mul_nonneg a h3, ?_⟩
  exact Int.le_trans (Int.mul_le_mul b h4 h3 (by omega)) (by omega)
theorem angle_le (h : Int) : 0 ≤ angleI h ∧ angleI h < 360 := ⟨Int.emod_nonneg _ (by decide), Int.emod_lt_of_pos _ (by decide)⟩
theorem mid_mul {c m : Int} (h1 : 0 ≤ c) (h2 : c ≤ 10000) (h3 : 0 ≤ m) (h4 : m ≤ 60) : 0 ≤ 2 * c * m ∧ 2 * c * m ≤ 1200000 := by
  refine ⟨Int.mul_nonneg (by omega) h3, ?_⟩
  exact Int.le_trans (Int.mul_le_mul (show 2 * c ≤ 20000 by omega) h4 h3 (by omega)) (by omega)
theorem mid_le {h l s : Int} (h1 : 0 ≤ l) (h2 : l ≤ 100) (h3 : 0 ≤ s) (h4 : s ≤ 100) : 0 ≤ middleI h l s ∧ middleI h l s ≤ 20000 := by
  unfold middleI
  have := chroma_le h1 h2 h3 h4
  have := mid_mul this.1 this.2 (m := 60 - ((angleI h % 120 - 60).natAbs : Int)) (by omega) (by omega)
  omega
theorem orders_at (h l s : Int) : At ((ordersI h l s).map triA) (angleI h / 60) (triA ((ordersI h l s).getD (angleI h / 60).toNat [])) := by
  have := angle_le h
  refine .pos (by omega) ?_
  have hl : (angleI h / 60).toNat < (ordersI h l s).length := by show _ < 6; omega
  rw [List.getElem?_map, List.getElem?_eq_getElem hl, List.getD_eq_getElem?_getD, List.getElem?_eq_getElem hl]; rfl
theorem orders_bound {h l s : Int} (h1 : 0 ≤ l) (h2 : l ≤ 100) (h3 : 0 ≤ s) (h4 : s ≤ 100) : (∀ p ∈ (ordersI h l s).getD (angleI h / 60).toNat [], 0 ≤ p ∧ p ≤ 20000) ∧ ((ordersI h l s).getD (angleI h / 60).toNat []).length = 3 := by
  have a := chroma_le h1 h2 h3 h4
  have b := mid_le (h := h) h1 h2 h3 h4
  have := angle_le h
  have hl : (angleI h / 60).toNat < (ordersI h l s).length := by show _ < 6; omega
  rw [List.getD_eq_getElem?_getD, List.getElem?_eq_getElem hl]
  have key : ∀ o ∈ ordersI h l s, (∀ p ∈ o, 0 ≤ p ∧ p ≤ 20000) ∧ o.length = 3 := by
    intro o ho
    unfold ordersI at ho
    simp only [List.mem_cons, List.not_mem_nil, or_false] at ho
    rcases ho with rfl | rfl | rfl | rfl | rfl | rfl <;> refine ⟨fun p hp => ?_, rfl⟩ <;> simp only [List.mem_cons, List.not_mem_nil, or_false] at hp <;> rcases hp with rfl | rfl | rfl <;> omega
  exact key _ (List.getElem_mem hl)
theorem hue_spec {C : Cx} {A : Around} {n : Nat} {l : List Ent} {hu li sa : Int} {Φ : AV → List Ent → Prop} (r : Room A (n + 3)) (g1 : 0 ≤ li) (g2 : li ≤ 100) (g3 : 0 ≤ sa) (g4 : sa ≤ 100) (h : Φ (triA (hueI hu li sa)) l) :
    Wn C A Is l [.int hu, .int li, .int sa] (fun vs => call (.ref 70) vs) Φ := by
  have ho : (Kf C).lookup 70 = some _ := rfl
  refine call_cels (fd := _) (body := _) (params := [Str.ofString "hue", Str.ofString "lightness", Str.ofString "saturation"]) (names := [Str.ofString "hue", Str.ofString "lightness", Str.ofString "saturation", Str.ofString "chroma", Str.ofString "angle", Str.ofString "middle", Str.ofString "most", Str.ofString "orders"]) (cn := [Str.ofString "least"])
    (vals := [some (.int hu), some (.int li), some (.int sa), none, none, none, none, none]) (cvals := [none]) (n := n + 2)
    ⟨⟨_, C.kin _ _ ho, rfl⟩, codeRec_of C.kin rfl, rfl, rfl, rfl, rfl, rfl, rfl, rfl⟩ r (fun vs hl => ?_) rfl rfl rfl (by decide) (by decide) (by decide) (by decide) (.some .head (.some (.tail .head) (.some (.tail (.tail .head)) (.none (.none (.none (.none (.none .nil)))))))) (.none .nil) fun env cl hcl E r' => ?_
  · obtain ⟨x, y, z, rfl⟩ := len3 hl
    exact rfl
  · clear ho
    obtain ⟨x, rfl⟩ := cl1 hcl
    have hT := E.loc (names := [Str.ofString "hue", Str.ofString "lightness", Str.ofString "saturation", Str.ofString "chroma", Str.ofString "angle", Str.ofString "middle", Str.ofString "most", Str.ofString "orders"]) rfl rfl
    have hG := E.glob (names := [Str.ofString "abs", Str.ofString "tuple"]) rfl rfl
    have hC := E.cel rfl rfl (List.nodup_cons.mpr ⟨List.not_mem_nil, List.nodup_nil⟩)
    have hc : 0 ≤ (100 - ((2 * li - 100).natAbs : Int)) * sa ∧ (100 - ((2 * li - 100).natAbs : Int)) * sa ≤ 10000 := chroma_le g1 g2 g3 g4
    have ha : 0 ≤ (hu + 240) % 360 ∧ (hu + 240) % 360 < 360 := angle_le hu
    have hm := mid_mul hc.1 hc.2 (m := 60 - (((hu + 240) % 360 % 120 - 60).natAbs : Int)) (by omega) (by omega)
    show WF C _ (ns env.locals [Str.ofString "hue", Str.ofString "lightness", Str.ofString "saturation", Str.ofString "chroma", Str.ofString "angle", Str.ofString "middle", Str.ofString "most", Str.ofString "orders"] [some (.int hu), some (.int li), some (.int sa), none, none, none, none, none] :: cel x none :: l) _ _
    refine ex_assign ?_
    refine ev_bin ?_
    refine ev_bin ?_
    refine ev_int ?_
    refine ev_callB (ev_glob (by assumption) (.head _) (gv_abs _) ⟨_, rfl, ?_⟩)
    refine ar_cons ?_
    refine ev_bin ?_
    refine ev_bin ?_
    refine ev_int ?_
    refine ev_loc (by assumption) (.head _) (.tail .head) ?_
    refine o2_mul (mulOk (by omega) (by omega)) ?_
    refine ev_int ?_
    refine o2_sub ?_
    refine ar_nil ?_
    refine b_abs ?_
    refine o2_sub ?_
    refine ev_loc (by assumption) (.head _) (.tail (.tail .head)) ?_
    refine o2_mul (mulOk (by omega) (by omega)) ?_
    refine st_loc (by assumption) (.head) ((.tail (.tail (.tail .head)))) ?_
    refine ex_assign ?_
    refine ev_bin ?_
    refine ev_bin ?_
    refine ev_int ?_
    refine ev_loc (by assumption) (.head _) (.tail .head) ?_
    refine o2_mul (mulOk (by omega) (by omega)) ?_
    refine ev_loc (by assumption) (.head _) (.tail (.tail (.tail .head))) ?_
    refine o2_sub ?_
    refine st_cel (by assumption) (.head _) ((.tail .head)) ?_
    refine ex_assign ?_
    refine ev_bin ?_
    refine ev_bin ?_
    refine ev_loc (by assumption) (.head _) .head ?_
    refine ev_int ?_
    refine o2_add ?_
    refine ev_int ?_
    refine o2_mod (by omega) ?_
    refine st_loc (by assumption) (.head) ((.tail (.tail (.tail (.tail .head))))) ?_
    refine ex_assign ?_
    refine ev_bin ?_
    refine ev_bin ?_
    refine ev_bin ?_
    refine ev_int ?_
    refine ev_loc (by assumption) (.head _) (.tail (.tail (.tail .head))) ?_
    refine o2_mul (mulOk (by omega) (by omega)) ?_
    refine ev_bin ?_
    refine ev_int ?_
    refine ev_callB (ev_glob (by assumption) (.head _) (gv_abs _) ⟨_, rfl, ?_⟩)
    refine ar_cons ?_
    refine ev_bin ?_
    refine ev_bin ?_
    refine ev_loc (by assumption) (.head _) (.tail (.tail (.tail (.tail .head)))) ?_
    refine ev_int ?_
    refine o2_mod (by omega) ?_
    refine ev_int ?_
    refine o2_sub ?_
    refine ar_nil ?_
    refine b_abs ?_
    refine o2_sub ?_
    refine o2_mul (mulOk (by omega) (by omega)) ?_
    refine ev_int ?_
    refine o2_div (by omega) (by omega) (by omega) ?_
    refine st_loc (by assumption) (.head) ((.tail (.tail (.tail (.tail (.tail .head)))))) ?_
    refine ex_assign ?_
    refine ev_bin ?_
    refine ev_int ?_
    refine ev_loc (by assumption) (.head _) (.tail (.tail (.tail .head))) ?_
    refine o2_mul (mulOk (by omega) (by omega)) ?_
    refine st_loc (by assumption) (.head) ((.tail (.tail (.tail (.tail (.tail (.tail .head))))))) ?_
    refine ex_assign ?_
    refine ev_tup ?_
    refine ar_cons ?_
    refine ev_tup ?_
    refine ar_cons ?_
    refine ev_loc (by assumption) (.head _) (.tail (.tail (.tail (.tail (.tail (.tail .head)))))) ?_
    refine ar_cons ?_
    refine ev_loc (by assumption) (.head _) (.tail (.tail (.tail (.tail (.tail .head))))) ?_
    refine ar_cons ?_
    refine ev_int ?_
    refine ar_nil ?_
    refine ⟨Nat.le_of_ble_eq_true rfl, ?_⟩
    refine ar_cons ?_
    refine ev_tup ?_
    refine ar_cons ?_
    refine ev_loc (by assumption) (.head _) (.tail (.tail (.tail (.tail (.tail .head))))) ?_
    refine ar_cons ?_
    refine ev_loc (by assumption) (.head _) (.tail (.tail (.tail (.tail (.tail (.tail .head)))))) ?_
    refine ar_cons ?_
    refine ev_int ?_
    refine ar_nil ?_
    refine ⟨Nat.le_of_ble_eq_true rfl, ?_⟩
    refine ar_cons ?_
    refine ev_tup ?_
    refine ar_cons ?_
    refine ev_int ?_
    refine ar_cons ?_
    refine ev_loc (by assumption) (.head _) (.tail (.tail (.tail (.tail (.tail (.tail .head)))))) ?_
    refine ar_cons ?_
    refine ev_loc (by assumption) (.head _) (.tail (.tail (.tail (.tail (.tail .head))))) ?_
    refine ar_nil ?_
    refine ⟨Nat.le_of_ble_eq_true rfl, ?_⟩
    refine ar_cons ?_
    refine ev_tup ?_
    refine ar_cons ?_
    refine ev_int ?_
    refine ar_cons ?_
    refine ev_loc (by assumption) (.head _) (.tail (.tail (.tail (.tail (.tail .head))))) ?_
    refine ar_cons ?_
    refine ev_loc (by assumption) (.head _) (.tail (.tail (.tail (.tail (.tail (.tail .head)))))) ?_
    refine ar_nil ?_
    refine ⟨Nat.le_of_ble_eq_true rfl, ?_⟩
    refine ar_cons ?_
    refine ev_tup ?_
    refine ar_cons ?_
    refine ev_loc (by assumption) (.head _) (.tail (.tail (.tail (.tail (.tail .head))))) ?_
    refine ar_cons ?_
    refine ev_int ?_
    refine ar_cons ?_
    refine ev_loc (by assumption) (.head _) (.tail (.tail (.tail (.tail (.tail (.tail .head)))))) ?_
    refine ar_nil ?_
    refine ⟨Nat.le_of_ble_eq_true rfl, ?_⟩
    refine ar_cons ?_
    refine ev_tup ?_
    refine ar_cons ?_
    refine ev_loc (by assumption) (.head _) (.tail (.tail (.tail (.tail (.tail (.tail .head)))))) ?_
    refine ar_cons ?_
    refine ev_int ?_
    refine ar_cons ?_
    refine ev_loc (by assumption) (.head _) (.tail (.tail (.tail (.tail (.tail .head))))) ?_
    refine ar_nil ?_
    refine ⟨Nat.le_of_ble_eq_true rfl, ?_⟩
    refine ar_nil ?_
    refine ⟨Nat.le_of_ble_eq_true rfl, ?_⟩
    refine st_loc (by assumption) (.head) ((.tail (.tail (.tail (.tail (.tail (.tail (.tail .head)))))))) ?_
    refine ex_ret ?_
    refine ev_callT (ev_glob (by assumption) (.tail _ (.head _)) (gv_tuple _) ⟨_, rfl, ?_⟩)
    refine ar_cons ?_
    refine ev_map (γ := Int) [(Str.ofString "least", x)] [Str.ofString "part"] r' E rfl (by decide) rfl (by decide) (by decide) ?_
    refine ev_sub ?_
    refine ev_loc (by assumption) (.head _) (.tail (.tail (.tail (.tail (.tail (.tail (.tail .head))))))) ?_
    refine ev_bin ?_
    refine ev_loc (by assumption) (.head _) (.tail (.tail (.tail (.tail .head)))) ?_
    refine ev_int ?_
    refine o2_div (by omega) (by omega) (by omega) ?_
    refine gi_tup (orders_at hu li sa) ?_ ?_
    · exact Nat.le_of_ble_eq_true rfl
    have hb := orders_bound (h := hu) g1 g2 g3 g4
    refine ⟨.tup, (ordersI hu li sa).getD (angleI hu / 60).toNat [], .int, fun part => .int (max 0 (min ((part + leastI li sa + 100) / 200) 100)), .tup, by rw [hb.2]; decide, fun cenv Ec z hz => ?_, fun a => ?_⟩
    · have hT := Ec.loc (names := [Str.ofString "part"]) rfl rfl
      have hG := Ec.glob (names := [Str.ofString "clamp"]) rfl rfl
      have hC := Ec.cel rfl rfl (List.nodup_cons.mpr ⟨List.not_mem_nil, List.nodup_nil⟩)
      have hz1 := hb.1 z hz
      show W1 C _ isEq (ns cenv.locals [Str.ofString "part"] [none] :: _) _ _ _
      refine as_name ?_
      refine st_loc (by assumption) (.head) (.head) ?_
      refine ev_callK (ev_glob (by assumption) (.head _) (gv_clamp _) ⟨_, rfl, rfl, ?_⟩)
      refine ar_cons ?_
      refine ev_bin ?_
      refine ev_bin ?_
      refine ev_bin ?_
      refine ev_loc (by assumption) (.head _) .head ?_
      refine ev_cel (by assumption) (.head _) (.tail _ (.tail _ (.head _))) ?_
      refine o2_add ?_
      refine ev_int ?_
      refine o2_add ?_
      refine ev_int ?_
      refine o2_div (by omega) (by omega) (by omega) ?_
      refine ar_cons ?_
      refine ev_int ?_
      refine ar_cons ?_
      refine ev_int ?_
      refine ar_nil ?_
      refine clamp_spec r' ?_
      exact ⟨rfl, _, .rfl⟩
    · refine ar_nil ?_
      refine t_tup_list (.head _) ?_ ?_
      · rw [List.length_map, hb.2]; decide
      refine ⟨_, _, .ret, ?_, by have q := h; unfold triA hueI at q; rw [List.map_map] at q; exact q⟩
      exact (.tails (.tails (.tails .rfl)))
end Mine
end
section
open PySem PySem.W PySem.Calls PyProof.Rows
namespace Mine
noncomputable def n0 (ns : List Int) (i : Nat) : Int := ns.getD i 0
noncomputable def tellI (S : RS) (way p0 p1 p2 : Int) : RS :=
  if way = 1 then { S with cols := dput S.cols S.colour (hueI (p0 % 360) (min p1 100) (min p2 100)) }
  else if way = 2 then { S with cols := dput S.cols S.colour [min p0 100, min p1 100, min p2 100] } else S
theorem tell_spec {C : Cx} {A : Around} {n : Nat} {l : List Ent} {most : Int} {a d dp dc ln lp : Addr} {S : RS} {way p0 p1 p2 : Int} {Φ : AV → List Ent → Prop} (r : Room A (n + 6)) (q1 : 0 ≤ p1) (q2 : 0 ≤ p2) (hz : S.cols.length ≤ 1000)
    (hl : lst lp [.int p0, .int p1, .int p2] ∈ l) (h : Φ .none (rdr C most a d dp dc ln (tellI S way p0 p1 p2) l)) : Wn C A Is (rdr C most a d dp dc ln S l) [.ref a, .int way, .ref lp] (fun vs => call (.ref 103) vs) Φ := by
  have ho : (Kf C).lookup 103 = some _ := rfl
  have hK := cls_reader C
  have hzc : (colsA S.cols).length ≤ 100000 := by rw [show (colsA S.cols).length = S.cols.length from List.length_map ..]; omega
  refine call_plain (fd := _) (body := _) (params := [Str.ofString "self", Str.ofString "way", Str.ofString "parts"]) (rest := []) (names := [Str.ofString "self", Str.ofString "way", Str.ofString "parts"]) (vals := [some (.ref a), some (.int way), some (.ref lp)]) (n := n + 5)
    ⟨⟨_, C.kin _ _ ho, rfl⟩, codeRec_of C.kin rfl, rfl, rfl, rfl, rfl, rfl, rfl, rfl⟩ r (fun s vs _ hl => ?_) rfl rfl rfl (by decide) rfl rfl fun env E r' => ?_
  · obtain ⟨x, y, z, rfl⟩ := len3 hl
    exact .of_eq rfl
  · clear ho
    have hT := E.loc (names := [Str.ofString "self", Str.ofString "way", Str.ofString "parts"]) rfl rfl
    have hG := E.glob (names := [Str.ofString "sixel_parts_of_hue", Str.ofString "min", Str.ofString "tuple"]) rfl rfl
    have hl' : lst lp [.int p0, .int p1, .int p2] ∈ ns env.locals [Str.ofString "self", Str.ofString "way", Str.ofString "parts"] [some (.ref a), some (.int way), some (.ref lp)] :: rdr C most a d dp dc ln S l := .tail _ (.tail _ (.tail _ (.tail _ (.tail _ (.tail _ hl)))))
    refine ex_if ?_
    refine tr_cmp ?_
    refine ev_loc (by assumption) (.head _) (.tail .head) ?_
    refine ev_int ?_
    refine c2_eq ?_
    refine ⟨_, .bool _, ?_⟩
    refine dec_split (fun hc => ?_) (fun hc => ?_)
    · refine ex_sub ?_
      refine ev_callK (ev_glob (by assumption) (.head _) (gv_hue _) ⟨_, rfl, rfl, ?_⟩)
      refine ar_cons ?_
      refine ev_bin ?_
      refine ev_sub ?_
      refine ev_loc (by assumption) (.head _) (.tail (.tail .head)) ?_
      refine ev_int ?_
      refine gi_list hl' (.pos (by decide) rfl) (Nat.le_of_ble_eq_true rfl) ?_
      refine ev_int ?_
      refine o2_mod (by omega) ?_
      refine ar_cons ?_
      refine ev_callB (ev_glob (by assumption) (.tail _ (.head _)) (gv_min _) ⟨_, rfl, ?_⟩)
      refine ar_cons ?_
      refine ev_sub ?_
      refine ev_loc (by assumption) (.head _) (.tail (.tail .head)) ?_
      refine ev_int ?_
      refine gi_list hl' (.pos (by decide) rfl) (Nat.le_of_ble_eq_true rfl) ?_
      refine ar_cons ?_
      refine ev_int ?_
      refine ar_nil ?_
      refine b_min (by assumption) ?_
      refine ar_cons ?_
      refine ev_callB (ev_glob (by assumption) (.tail _ (.head _)) (gv_min _) ⟨_, rfl, ?_⟩)
      refine ar_cons ?_
      refine ev_sub ?_
      refine ev_loc (by assumption) (.head _) (.tail (.tail .head)) ?_
      refine ev_int ?_
      refine gi_list hl' (.pos (by decide) rfl) (Nat.le_of_ble_eq_true rfl) ?_
      refine ar_cons ?_
      refine ev_int ?_
      refine ar_nil ?_
      refine b_min (by assumption) ?_
      refine ar_nil ?_
      refine hue_spec r' (by omega) (by omega) (by omega) (by omega) ?_
      refine ev_attr ?_
      refine ev_loc (by assumption) (.head _) .head ?_
      refine ga_inst (by assumption) (.tail _ (.head _)) (.tail _ (.tail _ (.head _))) ((.tail (.tail .head))) rfl ?_
      refine ev_attr ?_
      refine ev_loc (by assumption) (.head _) .head ?_
      refine ga_inst (by assumption) (.tail _ (.head _)) (.tail _ (.tail _ (.head _))) ((.tail (.tail (.tail (.tail (.tail (.tail (.tail .head)))))))) rfl ?_
      refine si_dict (.tail (.tail (.tail (.tail .head)))) (keyI _) hzc ?_
      rw [show dput (colsA S.cols) S.colour (triA (hueI (p0 % 360) (min p1 100) (min p2 100))) = colsA (dput S.cols S.colour (hueI (p0 % 360) (min p1 100) (min p2 100))) from dput_map triA ..]
      refine ex_nil ?_
      refine next_is ?_
      refine ex_nil ?_
      rw [tellI, if_pos hc] at h
      exact ⟨_, _, .next, .tail, h⟩
    · refine ex_if ?_
      refine tr_cmp ?_
      refine ev_loc (by assumption) (.head _) (.tail .head) ?_
      refine ev_int ?_
      refine c2_eq ?_
      refine ⟨_, .bool _, ?_⟩
      refine dec_split (fun hc => ?_) (fun hc => ?_)
      · refine ex_sub ?_
        refine ev_callT (ev_glob (by assumption) (.tail _ (.tail _ (.head _))) (gv_tuple _) ⟨_, rfl, ?_⟩)
        refine ar_cons ?_
        refine ev_map (γ := Int) [] [Str.ofString "part"] r' E rfl (by decide) rfl (by decide) (by decide) ?_
        refine ev_loc (by assumption) (.head _) (.tail (.tail .head)) ?_
        refine ⟨.list, [p0, p1, p2], .int, fun part => .int (min part 100),   .list hl', Nat.le_of_ble_eq_true rfl, fun cenv Ec z hz => ?_, fun b => ?_⟩
        · have hT := Ec.loc (names := [Str.ofString "part"]) rfl rfl
          have hG := Ec.glob (names := [Str.ofString "min"]) rfl rfl
          show W1 C _ isEq (ns cenv.locals [Str.ofString "part"] [none] :: _) _ _ _
          refine as_name ?_
          refine st_loc (by assumption) (.head) (.head) ?_
          refine ev_callB (ev_glob (by assumption) (.head _) (gv_min _) ⟨_, rfl, ?_⟩)
          refine ar_cons ?_
          refine ev_loc (by assumption) (.head _) .head ?_
          refine ar_cons ?_
          refine ev_int ?_
          refine ar_nil ?_
          refine b_min (by assumption) ?_
          exact ⟨rfl, _, .rfl⟩
        · refine ar_nil ?_
          refine t_tup_list (.head _) (Nat.le_of_ble_eq_true rfl) ?_
          refine ev_attr ?_
          refine ev_loc (by assumption) (.tail _ (.head _)) .head ?_
          refine ga_inst (by assumption) (.tail _ (.tail _ (.head _))) (.tail _ (.tail _ (.tail _ (.head _)))) ((.tail (.tail .head))) rfl ?_
          refine ev_attr ?_
          refine ev_loc (by assumption) (.tail _ (.head _)) .head ?_
          refine ga_inst (by assumption) (.tail _ (.tail _ (.head _))) (.tail _ (.tail _ (.tail _ (.head _)))) ((.tail (.tail (.tail (.tail (.tail (.tail (.tail .head)))))))) rfl ?_
          refine si_dict (.tail (.tail (.tail (.tail (.tail .head))))) (keyI _) hzc ?_
          rw [show dput (colsA S.cols) S.colour (.tup ([p0, p1, p2].map fun part => .int (min part 100))) = colsA (dput S.cols S.colour [min p0 100, min p1 100, min p2 100]) from dput_map triA S.cols S.colour [min p0 100, min p1 100, min p2 100]]
          refine ex_nil ?_
          refine next_is ?_
          refine ex_nil ?_
          refine next_is ?_
          refine ex_nil ?_
          rw [tellI, if_neg (by assumption), if_pos (by assumption)] at h
          refine ⟨_, _, .next, ?_, h⟩
          exact (.pick (.tail (.tail .head)) (.pick (.tail (.tail .head)) (.pick (.tail (.tail .head)) (.pick (.tail (.tail .head)) (.pick (.tail (.tail .head)) (.tails (.tails .rfl)))))))
      · refine ex_nil ?_
        refine next_is ?_
        refine ex_nil ?_
        refine next_is ?_
        refine ex_nil ?_
        rw [tellI, if_neg (by assumption), if_neg (by assumption)] at h
        exact ⟨_, _, .next, .tail, h⟩
noncomputable def setTold (most : Int) (t2 t3 : Int) : Option (Int × Int) := if t2 > 0 ∨ t3 > 0 then some (min t2 most, min t3 most) else none
noncomputable def endI (most : Int) (S : RS) : RS :=
  let T := { S with command := 0 }
  if S.command = 33 then { T with many := max 1 (n0 S.nums 0) }
  else if S.command = 35 then
    let T := { T with colour := n0 S.nums 0 % 256 }
    if S.nums.length > 1 then tellI T (n0 S.nums 1) (n0 S.nums 2) (n0 S.nums 3) (n0 S.nums 4) else T
  else if S.command = 34 ∧ S.width = 0 ∧ S.bands = 0 ∧ S.told = none then { T with asp := (max 1 (n0 S.nums 0), max 1 (n0 S.nums 1)), told := setTold most (n0 S.nums 2) (n0 S.nums 3) }
  else T
structure ROk (most : Int) (S : RS) : Prop where
  cmd : S.command ≠ 0 → S.nums ≠ []
  len : S.nums.length ≤ 9
  pos : ∀ x ∈ S.nums, 0 ≤ x ∧ x ≤ 32767
  cols : S.cols.length ≤ 1000
theorem n0_pos {ns : List Int} (h : ∀ x ∈ ns, 0 ≤ x ∧ x ≤ 32767) (i : Nat) : 0 ≤ n0 ns i ∧ n0 ns i ≤ 32767 := by
  unfold n0
  rw [List.getD_eq_getElem?_getD]
  cases q : ns[i]? with
  | none => exact ⟨by decide, by decide⟩
  | some x => exact h x (List.mem_of_getElem? q)
theorem nums_at {ns : List Int} {i : Nat} (h : i < ns.length) : (ns.map AV.int)[i]? = some (.int (n0 ns i)) := by
  rw [List.getElem?_map, List.getElem?_eq_getElem h, n0, List.getD_eq_getElem?_getD, List.getElem?_eq_getElem h]; rfl
theorem rest3 (ns : List Int) : ((ns.drop 2 ++ [0, 0, 0]).take 3) = [n0 ns 2, n0 ns 3, n0 ns 4] := by
  match ns with
  | [] => rfl
  | [_] => rfl
  | [_, _] => rfl
  | [_, _, _] => rfl
  | [_, _, _, _] => rfl
  | _ :: _ :: _ :: _ :: _ :: _ => rfl
theorem first4 {ns : List Int} (h : ns ≠ []) : ((ns ++ [0, 0, 0]).take 4) = [n0 ns 0, n0 ns 1, n0 ns 2, n0 ns 3] := by
  match ns, h with
  | [_], _ => rfl
  | [_, _], _ => rfl
  | [_, _, _], _ => rfl
  | _ :: _ :: _ :: _ :: _, _ => rfl
theorem hands_told {t : Option (Int × Int)} : handsA (toldA t) = true := by cases t <;> rfl
theorem told_none {t : Option (Int × Int)} : isNoneA (toldA t) = true ↔ t = none := by cases t <;> simp [toldA, isNoneA, pairA]
set_option maxHeartbeats 1000000 in
theorem end_spec {C : Cx} {A : Around} {n : Nat} {l : List Ent} {most : Int} {a d dp dc ln : Addr} {S : RS} {Φ : AV → List Ent → Prop} (r : Room A (n + 7)) (O : ROk most S)
    (h : Φ .none (rdr C most a d dp dc ln (endI most S) l)) : Wn C A Is (rdr C most a d dp dc ln S l) [.ref a] (fun vs => call (.ref 98) vs) Φ := by
  have ho : (Kf C).lookup 98 = some _ := rfl
  have hK := cls_reader C
  refine call_plain (fd := _) (body := _) (params := [Str.ofString "self"]) (rest := [Str.ofString "command", Str.ofString "numbers", Str.ofString "told"]) (names := [Str.ofString "self", Str.ofString "command", Str.ofString "numbers", Str.ofString "told"]) (vals := [some (.ref a), none, none, none]) (n := n + 6)
    ⟨⟨_, C.kin _ _ ho, rfl⟩, codeRec_of C.kin rfl, rfl, rfl, rfl, rfl, rfl, rfl, rfl⟩ r (fun s vs _ hl => ?_) rfl rfl rfl (by decide) rfl rfl fun env E r' => ?_
  · obtain ⟨x, rfl⟩ := len1 hl
    exact .of_eq rfl
  · clear ho
    have hT := E.loc (names := [Str.ofString "self", Str.ofString "command", Str.ofString "numbers", Str.ofString "told"]) rfl rfl
    have hG := E.glob (names := [Str.ofString "SIXEL_REPEAT", Str.ofString "max", Str.ofString "SIXEL_COLOUR", Str.ofString "SIXEL_COLOURS", Str.ofString "len", Str.ofString "SIXEL_SIZE", Str.ofString "min"]) rfl rfl
    refine ex_swap (names := [Str.ofString "command", Str.ofString "numbers"]) r' ?_ ?_
    rotate_left
    · obtain ⟨e1, e2, e3, e4⟩ := E
      obtain ⟨sc, L, G, B, Ce, Co, Fr⟩ := env
      dsimp only at e1
      subst e1
      rfl
    have hlen9 : (S.nums.map AV.int).length ≤ 9 := by rw [List.length_map]; exact O.len
    have hlen : (S.nums.map AV.int).length ≤ 100000 := by have := O.len; rw [List.length_map]; omega
    refine ev_tup ?_
    refine ar_cons ?_
    refine ev_attr ?_
    refine ev_loc (by assumption) (.head _) .head ?_
    refine ga_inst (by assumption) (.tail _ (.head _)) (.tail _ (.tail _ (.head _))) ((.tail (.tail (.tail (.tail (.tail (.tail (.tail (.tail (.tail (.tail (.tail .head)))))))))))) rfl ?_
    refine ar_cons ?_
    refine ev_attr ?_
    refine ev_loc (by assumption) (.head _) .head ?_
    refine ga_inst (by assumption) (.tail _ (.head _)) (.tail _ (.tail _ (.head _))) ((.tail (.tail (.tail (.tail (.tail (.tail (.tail (.tail (.tail (.tail (.tail (.tail .head))))))))))))) rfl ?_
    refine ar_nil ?_
    refine ⟨Nat.le_of_ble_eq_true rfl, ?_⟩
    refine ⟨_, rfl, rfl, ?_⟩
    change WT C _ _ [.ref ln, .int S.command] (assignInOrder [bindName env (Str.ofString "numbers"), bindName env (Str.ofString "command")]) _
    refine in_cons ?_
    refine as_bind ?_
    refine st_loc (by assumption) (.head) ((.tail (.tail .head))) ?_
    refine in_cons ?_
    refine as_bind ?_
    refine st_loc (by assumption) (.head) ((.tail .head)) ?_
    refine in_nil ?_
    refine ex_attr ?_
    refine ev_int ?_
    refine ev_loc (by assumption) (.head _) .head ?_
    refine sa_inst (by assumption) (.tail _ (.head _)) ((.tail (.tail .head))) ((.tail (.tail (.tail (.tail (.tail (.tail (.tail (.tail (.tail (.tail (.tail .head)))))))))))) rfl ?_
    refine ex_if ?_
    refine tr_cmp ?_
    refine ev_loc (by assumption) (.head _) (.tail .head) ?_
    refine ev_glob (by assumption) (.head _) (gv_REPEAT _) ?_
    refine c2_eq ?_
    refine ⟨_, .bool _, ?_⟩
    refine dec_split (fun hc => ?_) (fun hc => ?_)
    · refine ex_attr ?_
      refine ev_callB (ev_glob (by assumption) (.tail _ (.head _)) (gv_max _) ⟨_, rfl, ?_⟩)
      refine ar_cons ?_
      refine ev_int ?_
      refine ar_cons ?_
      refine ev_sub ?_
      refine ev_loc (by assumption) (.head _) (.tail (.tail .head)) ?_
      refine ev_int ?_
      refine gi_list (i := 0) (.tail _ (.tail _ (.tail _ (.tail _ (.tail _ (.head _)))))) (.pos (by decide) (nums_at (List.length_pos_iff.mpr (O.cmd (by omega))))) hlen ?_
      refine ar_nil ?_
      refine b_max (by assumption) ?_
      refine ev_loc (by assumption) (.head _) .head ?_
      refine sa_inst (by assumption) (.tail _ (.head _)) ((.tail (.tail .head))) ((.tail (.tail (.tail (.tail (.tail (.tail (.tail (.tail (.tail (.tail .head))))))))))) rfl ?_
      refine ex_nil ?_
      refine next_is ?_
      refine ex_nil ?_
      have e : endI most S = { S with command := 0, many := max 1 (n0 S.nums 0) } := by unfold endI; rw [if_pos hc]
      rw [e] at h
      exact ⟨_, _, .next, .tail, h⟩
    · refine ex_if ?_
      refine tr_cmp ?_
      refine ev_loc (by assumption) (.head _) (.tail .head) ?_
      refine ev_glob (by assumption) (.tail _ (.tail _ (.head _))) (gv_COLOUR _) ?_
      refine c2_eq ?_
      refine ⟨_, .bool _, ?_⟩
      refine dec_split (fun hc => ?_) (fun hc => ?_)
      · refine ex_attr ?_
        refine ev_bin ?_
        refine ev_sub ?_
        refine ev_loc (by assumption) (.head _) (.tail (.tail .head)) ?_
        refine ev_int ?_
        refine gi_list (i := 0) (.tail _ (.tail _ (.tail _ (.tail _ (.tail _ (.head _)))))) (.pos (by decide) (nums_at (List.length_pos_iff.mpr (O.cmd (by omega))))) hlen ?_
        refine ev_glob (by assumption) (.tail _ (.tail _ (.tail _ (.head _)))) (gv_COLOURS _) ?_
        refine o2_mod (by omega) ?_
        refine ev_loc (by assumption) (.head _) .head ?_
        refine sa_inst (by assumption) (.tail _ (.head _)) ((.tail (.tail .head))) ((.tail (.tail (.tail (.tail (.tail (.tail (.tail .head)))))))) rfl ?_
        refine ex_if ?_
        refine tr_cmp ?_
        refine ev_callB (ev_glob (by assumption) (.tail _ (.tail _ (.tail _ (.tail _ (.head _))))) (gv_len _) ⟨_, rfl, ?_⟩)
        refine ar_cons ?_
        refine ev_loc (by assumption) (.head _) (.tail (.tail .head)) ?_
        refine ar_nil ?_
        refine b_len_list (.tail _ (.tail _ (.tail _ (.tail _ (.tail _ (.head _)))))) (by assumption) ?_
        refine ev_int ?_
        refine c2_gt ?_
        refine ⟨_, .bool _, ?_⟩
        refine dec_split (fun hc => ?_) (fun hc => ?_)
        · refine ex_expr ?_ (E.inter rfl)
          refine ev_meth (g := 103) ?_ rfl rfl
          refine ev_loc (by assumption) (.head _) .head ?_
          refine ⟨a, 118, d, RN, _, rfl, hK, .tail _ (.head _), .tail _ (.tail _ (.head _)), rfl, by decide, ?_⟩
          have hl1 : 1 < S.nums.length := by have q : (1 : Int) < ((S.nums.map AV.int).length : Nat) := by assumption
                                             rw [List.length_map] at q; omega
          refine ar_cons ?_
          refine ev_sub ?_
          refine ev_loc (by assumption) (.head _) (.tail (.tail .head)) ?_
          refine ev_int ?_
          refine gi_list (i := 1) (.tail _ (.tail _ (.tail _ (.tail _ (.tail _ (.head _)))))) (.pos (by decide) (nums_at (i := 1) hl1)) hlen ?_
          refine ar_cons ?_
          refine ev_slice ?_
          refine ev_bin ?_
          refine ev_slice ?_
          refine ev_loc (by assumption) (.head _) (.tail (.tail .head)) ?_
          refine part_yes ?_
          refine ev_int ?_
          refine ⟨2, rfl, ?_⟩
          refine part_no ?_
          refine .list (.tail _ (.tail _ (.tail _ (.tail _ (.tail _ (.head _)))))) hlen fun b => ?_
          refine ev_list ?_
          refine ar_cons ?_
          refine ev_int ?_
          refine ar_cons ?_
          refine ev_int ?_
          refine ar_cons ?_
          refine ev_int ?_
          refine ar_nil ?_
          refine ⟨Nat.le_of_ble_eq_true rfl, fun b2 => ?_⟩
          refine o2_list (.tail _ (.head _)) (.head _) ?_ fun c => ?_
          · show (((S.nums.map AV.int).take _).drop 2).length + 3 ≤ 100000
            rw [List.length_drop, List.length_take]; omega
          refine part_no ?_
          refine part_yes ?_
          refine ev_int ?_
          refine ⟨3, rfl, ?_⟩
          refine .list (.head _) ?_ fun b3 => ?_
          · show ((((S.nums.map AV.int).take _).drop 2) ++ _).length ≤ 100000
            rw [List.length_append, List.length_drop, List.length_take]
            show _ + 3 ≤ _
            omega
          refine ar_nil ?_
          have e3 : lpick (lpick (S.nums.map AV.int) (some 2) none ++ [.int 0, .int 0, .int 0]) none (some 3) = [.int (n0 S.nums 2), .int (n0 S.nums 3), .int (n0 S.nums 4)] := by
            have q := congrArg (List.map AV.int) (rest3 S.nums)
            rw [List.map_take, List.map_append, List.map_drop] at q
            unfold lpick
            rw [show (none : Option Nat).getD (S.nums.map AV.int).length = (S.nums.map AV.int).length from rfl, List.take_length]
            exact q
          rw [e3]
          have g1 := n0_pos O.pos 3
          have g2 := n0_pos O.pos 4
          refine Wn.gives (l' := rdr C most a d dp dc ln { S with command := 0, colour := n0 S.nums 0 % 256 } (lst b3 [.int (n0 S.nums 2), .int (n0 S.nums 3), .int (n0 S.nums 4)] :: ns env.locals [Str.ofString "self", Str.ofString "command", Str.ofString "numbers", Str.ofString "told"] [some (.ref a), some (.int S.command), some (.ref ln), none] :: l)) ?_ ?_
          · exact (.pick (.tail (.tail (.tail (.tail (.tail .head))))) (.pick (.tail (.tail (.tail (.tail (.tail .head))))) (.pick (.tail (.tail (.tail (.tail (.tail .head))))) (.pick (.tail (.tail (.tail (.tail (.tail .head))))) (.pick (.tail (.tail (.tail (.tail (.tail .head))))) (.pick .head (.pick (.tail (.tail (.tail .head))) (.tails (.tails (.tails .rfl))))))))))
          refine tell_spec r' g1.1 g2.1 O.cols (.head _) ?_
          refine ⟨rfl, ?_⟩
          refine ex_nil ?_
          refine next_is ?_
          refine ex_nil ?_
          refine next_is ?_
          refine ex_nil ?_
          refine next_is ?_
          refine ex_nil ?_
          have e : endI most S = tellI { S with command := 0, colour := n0 S.nums 0 % 256 } (n0 S.nums 1) (n0 S.nums 2) (n0 S.nums 3) (n0 S.nums 4) := by
            unfold endI; rw [if_neg (by assumption), if_pos (by assumption)]; dsimp only
            rw [if_pos hl1]
          rw [e] at h
          refine ⟨_, _, .next, ?_, h⟩
          exact (.pick .head (.pick .head (.pick .head (.pick .head (.pick .head (.tails (.tails .rfl)))))))
        · refine ex_nil ?_
          refine next_is ?_
          refine ex_nil ?_
          refine next_is ?_
          refine ex_nil ?_
          refine next_is ?_
          refine ex_nil ?_
          have e : endI most S = { S with command := 0, colour := n0 S.nums 0 % 256 } := by
            unfold endI; rw [if_neg (by assumption), if_pos (by assumption)]; dsimp only
            rw [if_neg]
            intro q
            have q2 : ¬ ((1 : Int) < ((S.nums.map AV.int).length : Nat)) := by assumption
            rw [List.length_map] at q2; omega
          rw [e] at h
          exact ⟨_, _, .next, .tail, h⟩
      · refine ex_if ?_
        refine tr_is (p := S.command = 34 ∧ S.width = 0 ∧ S.bands = 0 ∧ S.told = none) ?_ ?_
        · refine tr_and ?_
          refine tr_cmp ?_
          refine ev_loc (by assumption) (.head _) (.tail .head) ?_
          refine ev_glob (by assumption) (.tail _ (.tail _ (.tail _ (.tail _ (.tail _ (.head _)))))) (gv_SIZE _) ?_
          refine c2_eq ?_
          refine ⟨_, .bool _, ?_⟩
          refine dec_split (fun hc => ?_) (fun hc => ?_)
          · refine tr_and ?_
            refine tr_cmp ?_
            refine ev_attr ?_
            refine ev_loc (by assumption) (.head _) .head ?_
            refine ga_inst (by assumption) (.tail _ (.head _)) (.tail _ (.tail _ (.head _))) ((.tail (.tail (.tail (.tail (.tail (.tail (.tail (.tail .head))))))))) rfl ?_
            refine ev_int ?_
            refine c2_eq ?_
            refine ⟨_, .bool _, ?_⟩
            refine dec_split (fun hc => ?_) (fun hc => ?_)
            · refine tr_and ?_
              refine tr_cmp ?_
              refine ev_attr ?_
              refine ev_loc (by assumption) (.head _) .head ?_
              refine ga_inst (by assumption) (.tail _ (.head _)) (.tail _ (.tail _ (.head _))) ((.tail (.tail (.tail (.tail (.tail (.tail (.tail (.tail (.tail .head)))))))))) rfl ?_
              refine ev_int ?_
              refine c2_eq ?_
              refine ⟨_, .bool _, ?_⟩
              refine dec_split (fun hc => ?_) (fun hc => ?_)
              · refine tr_and ?_
                refine tr_cmp ?_
                refine ev_attr ?_
                refine ev_loc (by assumption) (.head _) .head ?_
                refine ga_inst (by assumption) (.tail _ (.head _)) (.tail _ (.tail _ (.head _))) (.tail (.tail (.tail (.tail .head)))) rfl ?_ hands_told
                refine ev_none ?_
                refine c2_is_none ?_
                refine ⟨_, .bool _, ?_⟩
                refine ⟨fun hc => ?_, fun hc => ?_⟩
                · refine tr_and_nil ?_
                  exact ⟨(decide_eq_true ⟨by assumption, by assumption, by assumption, told_none.mp (by assumption)⟩).symm, rfl⟩
                · skip
                  exact ⟨(decide_eq_false fun q => Bool.noConfusion ((told_none.mpr q.2.2.2).symm.trans (by assumption))).symm, rfl⟩
              · exact ⟨(decide_eq_false fun q => absurd q.2.2.1 (by assumption)).symm, rfl⟩
            · exact ⟨(decide_eq_false fun q => absurd q.2.1 (by assumption)).symm, rfl⟩
          · exact ⟨(decide_eq_false fun q => absurd q.1 (by assumption)).symm, rfl⟩
        refine dec_split (fun hc => ?_) (fun hc => ?_)
        · refine ex_assign ?_
          refine ev_slice ?_
          refine ev_bin ?_
          refine ev_loc (by assumption) (.head _) (.tail (.tail .head)) ?_
          refine ev_list ?_
          refine ar_cons ?_
          refine ev_int ?_
          refine ar_cons ?_
          refine ev_int ?_
          refine ar_cons ?_
          refine ev_int ?_
          refine ar_nil ?_
          refine ⟨Nat.le_of_ble_eq_true rfl, fun b => ?_⟩
          refine o2_list (.tail _ (.tail _ (.tail _ (.tail _ (.tail _ (.tail _ (.head _))))))) (.head _) ?_ fun c => ?_
          · show (S.nums.map AV.int).length + 3 ≤ 100000
            omega
          refine part_no ?_
          refine part_yes ?_
          refine ev_int ?_
          refine ⟨4, rfl, ?_⟩
          refine .list (.head _) ?_ fun b3 => ?_
          · rw [List.length_append]
            show _ + 3 ≤ _
            omega
          have e3 : lpick (S.nums.map AV.int ++ [.int 0, .int 0, .int 0]) none (some 4) = [.int (n0 S.nums 0), .int (n0 S.nums 1), .int (n0 S.nums 2), .int (n0 S.nums 3)] := by
            have q := congrArg (List.map AV.int) (first4 (O.cmd (by omega)))
            rw [List.map_take, List.map_append] at q
            exact q
          rw [e3]
          have e : endI most S = { S with command := 0, asp := (max 1 (n0 S.nums 0), max 1 (n0 S.nums 1)), told := setTold most (n0 S.nums 2) (n0 S.nums 3) } := by
            unfold endI; rw [if_neg (by assumption), if_neg (by assumption), if_pos hc]
          rw [e] at h
          have e4 : toldA S.told = toldA none := by rw [hc.2.2.2]
          have yes : n0 S.nums 2 > 0 ∨ n0 S.nums 3 > 0 → setTold most (n0 S.nums 2) (n0 S.nums 3) = some (min (n0 S.nums 2) most, min (n0 S.nums 3) most) := fun q => if_pos q
          rw [e4]
          refine st_loc (by assumption) ((.tail (.tail (.tail .head)))) ((.tail (.tail (.tail .head)))) ?_
          refine ex_attr ?_
          refine ev_tup ?_
          refine ar_cons ?_
          refine ev_callB (ev_glob (by assumption) (.tail _ (.head _)) (gv_max _) ⟨_, rfl, ?_⟩)
          refine ar_cons ?_
          refine ev_int ?_
          refine ar_cons ?_
          refine ev_sub ?_
          refine ev_loc (by assumption) (.tail _ (.tail _ (.tail _ (.head _)))) (.tail (.tail (.tail .head))) ?_
          refine ev_int ?_
          refine gi_list (.head _) (.pos (by decide) rfl) (Nat.le_of_ble_eq_true rfl) ?_
          refine ar_nil ?_
          refine b_max (by assumption) ?_
          refine ar_cons ?_
          refine ev_callB (ev_glob (by assumption) (.tail _ (.head _)) (gv_max _) ⟨_, rfl, ?_⟩)
          refine ar_cons ?_
          refine ev_int ?_
          refine ar_cons ?_
          refine ev_sub ?_
          refine ev_loc (by assumption) (.tail _ (.tail _ (.tail _ (.head _)))) (.tail (.tail (.tail .head))) ?_
          refine ev_int ?_
          refine gi_list (.head _) (.pos (by decide) rfl) (Nat.le_of_ble_eq_true rfl) ?_
          refine ar_nil ?_
          refine b_max (by assumption) ?_
          refine ar_nil ?_
          refine ⟨Nat.le_of_ble_eq_true rfl, ?_⟩
          refine ev_loc (by assumption) (.tail _ (.tail _ (.tail _ (.head _)))) .head ?_
          refine sa_inst (by assumption) (.tail _ (.tail _ (.tail _ (.tail _ (.head _))))) ((.tail (.tail (.tail (.tail (.tail .head)))))) ((.tail (.tail (.tail .head)))) rfl ?_
          refine ex_if ?_
          refine tr_or ?_
          refine tr_cmp ?_
          refine ev_sub ?_
          refine ev_loc (by assumption) (.tail _ (.tail _ (.tail _ (.head _)))) (.tail (.tail (.tail .head))) ?_
          refine ev_int ?_
          refine gi_list (.head _) (.pos (by decide) rfl) (Nat.le_of_ble_eq_true rfl) ?_
          refine ev_int ?_
          refine c2_gt ?_
          refine ⟨_, .bool _, ?_⟩
          refine dec_split (fun hc => ?_) (fun hc => ?_)
          · refine ⟨fun _ => ?_, fun q => (nomatch q)⟩
            refine ex_attr ?_
            refine ev_tup ?_
            refine ar_cons ?_
            refine ev_callB (ev_glob (by assumption) (.tail _ (.tail _ (.tail _ (.tail _ (.tail _ (.tail _ (.head _))))))) (gv_min _) ⟨_, rfl, ?_⟩)
            refine ar_cons ?_
            refine ev_sub ?_
            refine ev_loc (by assumption) (.tail _ (.tail _ (.tail _ (.head _)))) (.tail (.tail (.tail .head))) ?_
            refine ev_int ?_
            refine gi_list (.head _) (.pos (by decide) rfl) (Nat.le_of_ble_eq_true rfl) ?_
            refine ar_cons ?_
            refine ev_attr ?_
            refine ev_loc (by assumption) (.tail _ (.tail _ (.tail _ (.head _)))) .head ?_
            refine ga_inst (by assumption) (.tail _ (.tail _ (.tail _ (.tail _ (.head _))))) (.tail _ (.tail _ (.tail _ (.tail _ (.tail _ (.head _)))))) (.head) rfl ?_
            refine ar_nil ?_
            refine b_min (by assumption) ?_
            refine ar_cons ?_
            refine ev_callB (ev_glob (by assumption) (.tail _ (.tail _ (.tail _ (.tail _ (.tail _ (.tail _ (.head _))))))) (gv_min _) ⟨_, rfl, ?_⟩)
            refine ar_cons ?_
            refine ev_sub ?_
            refine ev_loc (by assumption) (.tail _ (.tail _ (.tail _ (.head _)))) (.tail (.tail (.tail .head))) ?_
            refine ev_int ?_
            refine gi_list (.head _) (.pos (by decide) rfl) (Nat.le_of_ble_eq_true rfl) ?_
            refine ar_cons ?_
            refine ev_attr ?_
            refine ev_loc (by assumption) (.tail _ (.tail _ (.tail _ (.head _)))) .head ?_
            refine ga_inst (by assumption) (.tail _ (.tail _ (.tail _ (.tail _ (.head _))))) (.tail _ (.tail _ (.tail _ (.tail _ (.tail _ (.head _)))))) (.head) rfl ?_
            refine ar_nil ?_
            refine b_min (by assumption) ?_
            refine ar_nil ?_
            refine ⟨Nat.le_of_ble_eq_true rfl, ?_⟩
            refine ev_loc (by assumption) (.tail _ (.tail _ (.tail _ (.head _)))) .head ?_
            refine sa_inst (by assumption) (.tail _ (.tail _ (.tail _ (.tail _ (.head _))))) ((.tail (.tail (.tail (.tail (.tail .head)))))) ((.tail (.tail (.tail (.tail .head))))) rfl ?_
            refine ex_nil ?_
            refine next_is ?_
            refine ex_nil ?_
            refine next_is ?_
            refine ex_nil ?_
            refine next_is ?_
            refine ex_nil ?_
            refine next_is ?_
            refine ex_nil ?_
            rw [yes (.inl (by assumption))] at h
            refine ⟨_, _, .next, ?_, h⟩
            exact (.pick (.tail (.tail (.tail (.tail .head)))) (.pick (.tail (.tail (.tail (.tail .head)))) (.pick (.tail (.tail (.tail (.tail .head)))) (.pick (.tail (.tail (.tail (.tail .head)))) (.pick (.tail (.tail (.tail (.tail .head)))) (.tails (.tails (.tails (.tails .rfl)))))))))
          · refine tr_or ?_
            refine tr_cmp ?_
            refine ev_sub ?_
            refine ev_loc (by assumption) (.tail _ (.tail _ (.tail _ (.head _)))) (.tail (.tail (.tail .head))) ?_
            refine ev_int ?_
            refine gi_list (.head _) (.pos (by decide) rfl) (Nat.le_of_ble_eq_true rfl) ?_
            refine ev_int ?_
            refine c2_gt ?_
            refine ⟨_, .bool _, ?_⟩
            refine dec_split (fun hc => ?_) (fun hc => ?_)
            · refine ⟨fun _ => ?_, fun q => (nomatch q)⟩
              refine ex_attr ?_
              refine ev_tup ?_
              refine ar_cons ?_
              refine ev_callB (ev_glob (by assumption) (.tail _ (.tail _ (.tail _ (.tail _ (.tail _ (.tail _ (.head _))))))) (gv_min _) ⟨_, rfl, ?_⟩)
              refine ar_cons ?_
              refine ev_sub ?_
              refine ev_loc (by assumption) (.tail _ (.tail _ (.tail _ (.head _)))) (.tail (.tail (.tail .head))) ?_
              refine ev_int ?_
              refine gi_list (.head _) (.pos (by decide) rfl) (Nat.le_of_ble_eq_true rfl) ?_
              refine ar_cons ?_
              refine ev_attr ?_
              refine ev_loc (by assumption) (.tail _ (.tail _ (.tail _ (.head _)))) .head ?_
              refine ga_inst (by assumption) (.tail _ (.tail _ (.tail _ (.tail _ (.head _))))) (.tail _ (.tail _ (.tail _ (.tail _ (.tail _ (.head _)))))) (.head) rfl ?_
              refine ar_nil ?_
              refine b_min (by assumption) ?_
              refine ar_cons ?_
              refine ev_callB (ev_glob (by assumption) (.tail _ (.tail _ (.tail _ (.tail _ (.tail _ (.tail _ (.head _))))))) (gv_min _) ⟨_, rfl, ?_⟩)
              refine ar_cons ?_
              refine ev_sub ?_
              refine ev_loc (by assumption) (.tail _ (.tail _ (.tail _ (.head _)))) (.tail (.tail (.tail .head))) ?_
              refine ev_int ?_
              refine gi_list (.head _) (.pos (by decide) rfl) (Nat.le_of_ble_eq_true rfl) ?_
              refine ar_cons ?_
              refine ev_attr ?_
              refine ev_loc (by assumption) (.tail _ (.tail _ (.tail _ (.head _)))) .head ?_
              refine ga_inst (by assumption) (.tail _ (.tail _ (.tail _ (.tail _ (.head _))))) (.tail _ (.tail _ (.tail _ (.tail _ (.tail _ (.head _)))))) (.head) rfl ?_
              refine ar_nil ?_
              refine b_min (by assumption) ?_
              refine ar_nil ?_
              refine ⟨Nat.le_of_ble_eq_true rfl, ?_⟩
              refine ev_loc (by assumption) (.tail _ (.tail _ (.tail _ (.head _)))) .head ?_
              refine sa_inst (by assumption) (.tail _ (.tail _ (.tail _ (.tail _ (.head _))))) ((.tail (.tail (.tail (.tail (.tail .head)))))) ((.tail (.tail (.tail (.tail .head))))) rfl ?_
              refine ex_nil ?_
              refine next_is ?_
              refine ex_nil ?_
              refine next_is ?_
              refine ex_nil ?_
              refine next_is ?_
              refine ex_nil ?_
              refine next_is ?_
              refine ex_nil ?_
              rw [yes (.inr (by assumption))] at h
              refine ⟨_, _, .next, ?_, h⟩
              exact (.pick (.tail (.tail (.tail (.tail .head)))) (.pick (.tail (.tail (.tail (.tail .head)))) (.pick (.tail (.tail (.tail (.tail .head)))) (.pick (.tail (.tail (.tail (.tail .head)))) (.pick (.tail (.tail (.tail (.tail .head)))) (.tails (.tails (.tails (.tails .rfl)))))))))
            · refine tr_or_nil ?_
              refine ⟨fun q => (nomatch q), fun _ => ?_⟩
              refine ex_nil ?_
              refine next_is ?_
              refine ex_nil ?_
              refine next_is ?_
              refine ex_nil ?_
              refine next_is ?_
              refine ex_nil ?_
              refine next_is ?_
              refine ex_nil ?_
              rw [show setTold most (n0 S.nums 2) (n0 S.nums 3) = none from if_neg (fun q => q.elim (by assumption) (by assumption))] at h
              refine ⟨_, _, .next, ?_, h⟩
              exact (.pick (.tail (.tail (.tail (.tail .head)))) (.pick (.tail (.tail (.tail (.tail .head)))) (.pick (.tail (.tail (.tail (.tail .head)))) (.pick (.tail (.tail (.tail (.tail .head)))) (.pick (.tail (.tail (.tail (.tail .head)))) (.tails (.tails (.tails (.tails .rfl)))))))))
        · refine ex_nil ?_
          refine next_is ?_
          refine ex_nil ?_
          refine next_is ?_
          refine ex_nil ?_
          refine next_is ?_
          refine ex_nil ?_
          have e : endI most S = { S with command := 0 } := by
            unfold endI; rw [if_neg (by assumption), if_neg (by assumption), if_neg hc]
          rw [e] at h
          exact ⟨_, _, .next, .tail, h⟩
end Mine
end
section
open PySem PySem.W PySem.Calls PyProof.Rows
namespace Mine
noncomputable def rowP (p : List (Int × Int)) (k0 v : Int) : Nat → List (Int × Int)
  | 0 => p
  | n + 1 => dput (rowP p k0 v n) (k0 + n) v
noncomputable def bandP (most top bits col e v : Int) (p : List (Int × Int)) : Nat → List (Int × Int)
  | 0 => p
  | b + 1 => if bits / 2 ^ b % 2 = 1 ∧ top + b < most then rowP (bandP most top bits col e v p b) ((top + b) * most + col) v (e - col).toNat else bandP most top bits col e v p b
noncomputable def drawI (most : Int) (S : RS) (bits : Int) : RS :=
  if S.band * 6 < most ∧ S.column < min (S.column + S.many) most then
    { S with width := max S.width (min (S.column + S.many) most), bands := max S.bands (S.band + 1), column := max S.column (min (S.column + S.many) most),
             pts := bandP most (S.band * 6) bits S.column (min (S.column + S.many) most) S.colour S.pts 6 }
  else { S with column := max S.column (min (S.column + S.many) most) }
theorem rowP_len (p : List (Int × Int)) (k0 v : Int) : ∀ n, (rowP p k0 v n).length ≤ p.length + n
  | 0 => Nat.le_refl _
  | n + 1 => by
    have h1 := rowP_len p k0 v n
    have h2 := dput_length (rowP p k0 v n) (k0 + n) v
    show (dput _ _ _).length ≤ _
    omega
theorem bandP_len {most top bits col e v : Int} (p : List (Int × Int)) (h : (e - col).toNat ≤ 14) : ∀ n, (bandP most top bits col e v p n).length ≤ p.length + 14 * n
  | 0 => Nat.le_refl _
  | n + 1 => by
    have h1 := bandP_len (most := most) (top := top) (bits := bits) (v := v) p h n
    show (if _ then _ else _ : List (Int × Int)).length ≤ _
    split
    · have h2 := rowP_len (bandP most top bits col e v p n) ((top + n) * most + col) v (e - col).toNat
      omega
    · omega
theorem range_at {a : Int} {n i : Nat} {y : AV} (h : ((rangeInts a 1 n).map AV.int)[i]? = some y) : i < n ∧ y = .int (a + i) := by
  have hl := (List.getElem?_eq_some_iff.mp h).1
  rw [List.length_map, rangeInts_length] at hl
  rw [List.getElem?_map, rangeInts_get hl] at h
  refine ⟨hl, ?_⟩
  cases h
  rw [show (a + (i : Int) * 1) = a + i by omega]
theorem range_len {a : Int} {n : Nat} : ((rangeInts a 1 n).map AV.int).length = n := by rw [List.length_map, rangeInts_length]
structure DOk (most : Int) (S : RS) : Prop where
  m1 : 1 ≤ most
  m2 : most ≤ 14
  c0 : 0 ≤ S.column
  c1 : S.column ≤ most
  many : 1 ≤ S.many
  many2 : S.many ≤ 32767
  b0 : 0 ≤ S.band
  b1 : S.band ≤ 2000
  p : S.pts.length ≤ 99000
noncomputable abbrev DN : List Str := [Str.ofString "self", Str.ofString "bits", Str.ofString "end", Str.ofString "top", Str.ofString "bit", Str.ofString "column"]
set_option maxHeartbeats 1000000 in
theorem draw_spec {C : Cx} {A : Around} {n : Nat} {l : List Ent} {most bits : Int} {a d dp dc ln : Addr} {S : RS} {Φ : AV → List Ent → Prop} (r : Room A (n + 3)) (D : DOk most S) (hb : 0 ≤ bits)
    (h : Φ .none (rdr C most a d dp dc ln (drawI most S bits) l)) : Wn C A Is (rdr C most a d dp dc ln S l) [.ref a, .int bits] (fun vs => call (.ref 110) vs) Φ := by
  have ho : (Kf C).lookup 110 = some _ := rfl
  have hK := cls_reader C
  refine call_plain (fd := _) (body := _) (params := [Str.ofString "self", Str.ofString "bits"]) (rest := [Str.ofString "end", Str.ofString "top", Str.ofString "bit", Str.ofString "column"]) (names := DN) (vals := [some (.ref a), some (.int bits), none, none, none, none]) (n := n + 2)
    ⟨⟨_, C.kin _ _ ho, rfl⟩, codeRec_of C.kin rfl, rfl, rfl, rfl, rfl, rfl, rfl, rfl⟩ r (fun s vs _ hl => ?_) rfl rfl rfl (by decide) rfl rfl fun env E r' => ?_
  · obtain ⟨x, y, rfl⟩ := len2 hl
    exact .of_eq rfl
  · clear ho
    have hT := E.loc (names := [Str.ofString "self", Str.ofString "bits", Str.ofString "end", Str.ofString "top", Str.ofString "bit", Str.ofString "column"]) rfl rfl
    have hG := E.glob (names := [Str.ofString "min", Str.ofString "SIXEL_BAND", Str.ofString "max", Str.ofString "range"]) rfl rfl
    obtain ⟨m1, m2, c0, c1, many, many2, b0, b1, hp⟩ := D
    show WF C _ (ns env.locals [Str.ofString "self", Str.ofString "bits", Str.ofString "end", Str.ofString "top", Str.ofString "bit", Str.ofString "column"] [some (.ref a), some (.int bits), none, none, none, none] :: rdr C most a d dp dc ln S l) _ _
    refine ex_assign ?_
    refine ev_callB (ev_glob (by assumption) (.head _) (gv_min _) ⟨_, rfl, ?_⟩)
    refine ar_cons ?_
    refine ev_bin ?_
    refine ev_attr ?_
    refine ev_loc (by assumption) (.head _) .head ?_
    refine ga_inst (by assumption) (.tail _ (.head _)) (.tail _ (.tail _ (.head _))) ((.tail (.tail (.tail (.tail (.tail .head)))))) rfl ?_
    refine ev_attr ?_
    refine ev_loc (by assumption) (.head _) .head ?_
    refine ga_inst (by assumption) (.tail _ (.head _)) (.tail _ (.tail _ (.head _))) ((.tail (.tail (.tail (.tail (.tail (.tail (.tail (.tail (.tail (.tail .head))))))))))) rfl ?_
    refine o2_add ?_
    refine ar_cons ?_
    refine ev_attr ?_
    refine ev_loc (by assumption) (.head _) .head ?_
    refine ga_inst (by assumption) (.tail _ (.head _)) (.tail _ (.tail _ (.head _))) (.head) rfl ?_
    refine ar_nil ?_
    refine b_min (by assumption) ?_
    refine st_loc (by assumption) (.head) ((.tail (.tail .head))) ?_
    refine ex_assign ?_
    refine ev_bin ?_
    refine ev_attr ?_
    refine ev_loc (by assumption) (.head _) .head ?_
    refine ga_inst (by assumption) (.tail _ (.head _)) (.tail _ (.tail _ (.head _))) ((.tail (.tail (.tail (.tail (.tail (.tail .head))))))) rfl ?_
    refine ev_glob (by assumption) (.tail _ (.head _)) (gv_BAND _) ?_
    refine o2_mul (mulOk (by omega) (by omega)) ?_
    refine st_loc (by assumption) (.head) ((.tail (.tail (.tail .head)))) ?_
    refine ex_if ?_
    refine tr_is (p := S.band * 6 < most ∧ S.column < min (S.column + S.many) most) ?_ ?_
    · refine tr_and ?_
      refine tr_cmp ?_
      refine ev_loc (by assumption) (.head _) (.tail (.tail (.tail .head))) ?_
      refine ev_attr ?_
      refine ev_loc (by assumption) (.head _) .head ?_
      refine ga_inst (by assumption) (.tail _ (.head _)) (.tail _ (.tail _ (.head _))) (.head) rfl ?_
      refine c2_lt ?_
      refine ⟨_, .bool _, ?_⟩
      refine dec_split (fun hc => ?_) (fun hc => ?_)
      · refine tr_and ?_
        refine tr_cmp ?_
        refine ev_attr ?_
        refine ev_loc (by assumption) (.head _) .head ?_
        refine ga_inst (by assumption) (.tail _ (.head _)) (.tail _ (.tail _ (.head _))) ((.tail (.tail (.tail (.tail (.tail .head)))))) rfl ?_
        refine ev_loc (by assumption) (.head _) (.tail (.tail .head)) ?_
        refine c2_lt ?_
        refine ⟨_, .bool _, ?_⟩
        refine dec_split (fun hc => ?_) (fun hc => ?_)
        · refine tr_and_nil ?_
          exact ⟨(decide_eq_true ⟨by assumption, by assumption⟩).symm, rfl⟩
        · exact ⟨(decide_eq_false fun q => absurd q.2 (by assumption)).symm, rfl⟩
      · exact ⟨(decide_eq_false fun q => absurd q.1 (by assumption)).symm, rfl⟩
    refine dec_split (fun hc => ?_) (fun hc => ?_)
    · have e := show drawI most S bits = _ from if_pos hc
      rw [e] at h
      clear e
      refine ex_attr ?_
      refine ev_callB (ev_glob (by assumption) (.tail _ (.tail _ (.head _))) (gv_max _) ⟨_, rfl, ?_⟩)
      refine ar_cons ?_
      refine ev_attr ?_
      refine ev_loc (by assumption) (.head _) .head ?_
      refine ga_inst (by assumption) (.tail _ (.head _)) (.tail _ (.tail _ (.head _))) ((.tail (.tail (.tail (.tail (.tail (.tail (.tail (.tail .head))))))))) rfl ?_
      refine ar_cons ?_
      refine ev_loc (by assumption) (.head _) (.tail (.tail .head)) ?_
      refine ar_nil ?_
      refine b_max (by assumption) ?_
      refine ev_loc (by assumption) (.head _) .head ?_
      refine sa_inst (by assumption) (.tail _ (.head _)) ((.tail (.tail .head))) ((.tail (.tail (.tail (.tail (.tail (.tail (.tail (.tail .head))))))))) rfl ?_
      refine ex_attr ?_
      refine ev_callB (ev_glob (by assumption) (.tail _ (.tail _ (.head _))) (gv_max _) ⟨_, rfl, ?_⟩)
      refine ar_cons ?_
      refine ev_attr ?_
      refine ev_loc (by assumption) (.head _) .head ?_
      refine ga_inst (by assumption) (.tail _ (.head _)) (.tail _ (.tail _ (.head _))) ((.tail (.tail (.tail (.tail (.tail (.tail (.tail (.tail (.tail .head)))))))))) rfl ?_
      refine ar_cons ?_
      refine ev_bin ?_
      refine ev_attr ?_
      refine ev_loc (by assumption) (.head _) .head ?_
      refine ga_inst (by assumption) (.tail _ (.head _)) (.tail _ (.tail _ (.head _))) ((.tail (.tail (.tail (.tail (.tail (.tail .head))))))) rfl ?_
      refine ev_int ?_
      refine o2_add ?_
      refine ar_nil ?_
      refine b_max (by assumption) ?_
      refine ev_loc (by assumption) (.head _) .head ?_
      refine sa_inst (by assumption) (.tail _ (.head _)) ((.tail (.tail .head))) ((.tail (.tail (.tail (.tail (.tail (.tail (.tail (.tail (.tail .head)))))))))) rfl ?_
      refine ex_for r' ?_
      refine ev_callT (ev_glob (by assumption) (.tail _ (.tail _ (.tail _ (.head _)))) (gv_range _) ⟨_, rfl, ?_⟩)
      refine ar_cons ?_
      refine ev_glob (by assumption) (.tail _ (.head _)) (gv_BAND _) ?_
      refine ar_nil ?_
      refine b_range1 fun rr => ?_
      revert rr
      intro r6
      have hw14 : (min (S.column + S.many) most - S.column).toNat ≤ 14 := by omega
      have hR1 : RB 0 6 := .of0 (by decide) (by decide)
      refine ⟨_, _, fun i l' => ∃ vb vc, l' = rng r6 0 6 :: ns env.locals [Str.ofString "self", Str.ofString "bits", Str.ofString "end", Str.ofString "top", Str.ofString "bit", Str.ofString "column"] [some (.ref a), some (.int bits), some (.int (min (S.column + S.many) most)), some (.int (S.band * 6)), vb, vc] :: rdr C most a d dp dc ln { S with width := max S.width (min (S.column + S.many) most), bands := max S.bands (S.band + 1), pts := bandP most (S.band * 6) bits S.column (min (S.column + S.many) most) S.colour S.pts i } l,
        .rng (.head _) hR1, ⟨none, none, rfl⟩, fun i y l' hy hI => ?_, fun l' hI => ?_⟩
      · obtain ⟨vb, vc, rfl⟩ := hI
        obtain ⟨hi, rfl⟩ := range_at hy
        have hi6 : i < 6 := hi
        refine ⟨.rng (.head _) hR1, ?_⟩
        rw [show (0 + (i : Int)) = i by omega]
        refine as_name ?_
        refine st_loc (by assumption) ((.tail .head)) ((.tail (.tail (.tail (.tail .head))))) ?_
        refine ex_if ?_
        refine tr_is (p := bits / 2 ^ i % 2 = 1 ∧ S.band * 6 + i < most) ?_ ?_
        · refine tr_and ?_
          refine tr_cmp ?_
          refine ev_bin ?_
          refine ev_bin ?_
          refine ev_loc (by assumption) (.tail _ (.head _)) (.tail .head) ?_
          refine ev_loc (by assumption) (.tail _ (.head _)) (.tail (.tail (.tail (.tail .head)))) ?_
          refine o2_shr (by omega) ?_
          rw [Int.toNat_natCast]
          refine ev_int ?_
          refine o2_and1 (Int.ediv_nonneg hb (Int.pow_nonneg (by decide))) ?_
          refine ev_int ?_
          refine c2_eq ?_
          refine ⟨_, .bool _, ?_⟩
          refine dec_split (fun hc => ?_) (fun hc => ?_)
          · refine tr_and ?_
            refine tr_cmp ?_
            refine ev_bin ?_
            refine ev_loc (by assumption) (.tail _ (.head _)) (.tail (.tail (.tail .head))) ?_
            refine ev_loc (by assumption) (.tail _ (.head _)) (.tail (.tail (.tail (.tail .head)))) ?_
            refine o2_add ?_
            refine ev_attr ?_
            refine ev_loc (by assumption) (.tail _ (.head _)) .head ?_
            refine ga_inst (by assumption) (.tail _ (.tail _ (.head _))) (.tail _ (.tail _ (.tail _ (.head _)))) (.head) rfl ?_
            refine c2_lt ?_
            refine ⟨_, .bool _, ?_⟩
            refine dec_split (fun hc => ?_) (fun hc => ?_)
            · refine tr_and_nil ?_
              exact ⟨(decide_eq_true ⟨by assumption, by assumption⟩).symm, rfl⟩
            · exact ⟨(decide_eq_false fun q => absurd q.2 (by assumption)).symm, rfl⟩
          · exact ⟨(decide_eq_false fun q => absurd q.1 (by assumption)).symm, rfl⟩
        refine dec_split (fun hc2 => ?_) (fun hc2 => ?_)
        · refine ex_for r' ?_
          refine ev_callT (ev_glob (by assumption) (.tail _ (.tail _ (.tail _ (.head _)))) (gv_range _) ⟨_, rfl, ?_⟩)
          refine ar_cons ?_
          refine ev_attr ?_
          refine ev_loc (by assumption) (.tail _ (.head _)) .head ?_
          refine ga_inst (by assumption) (.tail _ (.tail _ (.head _))) (.tail _ (.tail _ (.tail _ (.head _)))) ((.tail (.tail (.tail (.tail (.tail .head)))))) rfl ?_
          refine ar_cons ?_
          refine ev_loc (by assumption) (.tail _ (.head _)) (.tail (.tail .head)) ?_
          refine ar_nil ?_
          refine b_range2 fun rr => ?_
          dsimp only
          have hR2 : RB S.column (min (S.column + S.many) most) := ⟨by omega, by omega, by omega, by omega⟩
          refine ⟨_, _, fun j l' => ∃ vc, l' = rng rr S.column (min (S.column + S.many) most) :: rng r6 0 6 :: ns env.locals [Str.ofString "self", Str.ofString "bits", Str.ofString "end", Str.ofString "top", Str.ofString "bit", Str.ofString "column"] [some (.ref a), some (.int bits), some (.int (min (S.column + S.many) most)), some (.int (S.band * 6)), some (.int i), vc] :: rdr C most a d dp dc ln { S with width := max S.width (min (S.column + S.many) most), bands := max S.bands (S.band + 1), pts := rowP (bandP most (S.band * 6) bits S.column (min (S.column + S.many) most) S.colour S.pts i) ((S.band * 6 + i) * most + S.column) S.colour j } l,
            .rng (.head _) hR2, ⟨vc, rfl⟩, fun j y l' hy hI => ?_, fun l' hI => ?_⟩
          · obtain ⟨vc, rfl⟩ := hI
            obtain ⟨hj, rfl⟩ := range_at hy
            refine ⟨.rng (.head _) hR2, ?_⟩
            refine as_name ?_
            refine st_loc (by assumption) ((.tail (.tail .head))) ((.tail (.tail (.tail (.tail (.tail .head)))))) ?_
            refine ex_sub ?_
            refine ev_attr ?_
            refine ev_loc (by assumption) (.tail _ (.tail _ (.head _))) .head ?_
            refine ga_inst (by assumption) (.tail _ (.tail _ (.tail _ (.head _)))) (.tail _ (.tail _ (.tail _ (.tail _ (.head _))))) ((.tail (.tail (.tail (.tail (.tail (.tail (.tail .head)))))))) rfl ?_
            refine ev_attr ?_
            refine ev_loc (by assumption) (.tail _ (.tail _ (.head _))) .head ?_
            refine ga_inst (by assumption) (.tail _ (.tail _ (.tail _ (.head _)))) (.tail _ (.tail _ (.tail _ (.tail _ (.head _))))) ((.tail .head)) rfl ?_
            refine ev_bin ?_
            refine ev_bin ?_
            refine ev_bin ?_
            refine ev_loc (by assumption) (.tail _ (.tail _ (.head _))) (.tail (.tail (.tail .head))) ?_
            refine ev_loc (by assumption) (.tail _ (.tail _ (.head _))) (.tail (.tail (.tail (.tail .head)))) ?_
            refine o2_add ?_
            refine ev_attr ?_
            refine ev_loc (by assumption) (.tail _ (.tail _ (.head _))) .head ?_
            refine ga_inst (by assumption) (.tail _ (.tail _ (.tail _ (.head _)))) (.tail _ (.tail _ (.tail _ (.tail _ (.head _))))) (.head) rfl ?_
            refine o2_mul (mulOk (by omega) (by omega)) ?_
            refine ev_loc (by assumption) (.tail _ (.tail _ (.head _))) (.tail (.tail (.tail (.tail (.tail .head))))) ?_
            refine o2_add ?_
            refine si_dict (.tail (.tail (.tail (.tail (.tail .head))))) (keyI _) ?_ ?_
            · have h1 := bandP_len (most := most) (top := S.band * 6) (bits := bits) (v := S.colour) S.pts hw14 i
              have h2 := rowP_len (bandP most (S.band * 6) bits S.column (min (S.column + S.many) most) S.colour S.pts i) ((S.band * 6 + i) * most + S.column) S.colour j
              refine Nat.le_trans (Nat.le_of_eq (List.length_map ..)) (Nat.le_trans h2 ?_)
              omega
            refine ex_nil ?_
            refine .inl ⟨rfl, some (.int (S.column + j)), ?_⟩
            rw [show (S.band * 6 + (i : Int)) * most + (S.column + (j : Int)) = (S.band * 6 + (i : Int)) * most + S.column + j by omega]
            rw [show dput (ptsA (rowP (bandP most (S.band * 6) bits S.column (min (S.column + S.many) most) S.colour S.pts i) ((S.band * 6 + i) * most + S.column) S.colour j)) ((S.band * 6 + (i : Int)) * most + S.column + j) (.int S.colour) = ptsA (rowP (bandP most (S.band * 6) bits S.column (min (S.column + S.many) most) S.colour S.pts i) ((S.band * 6 + i) * most + S.column) S.colour (j + 1)) from dput_map AV.int ..]
          · obtain ⟨vc, rfl⟩ := hI
            refine ⟨.rng (.head _) hR2, ?_⟩
            rw [range_len]
            refine Wr.gives .tail ?_
            refine ex_nil ?_
            refine next_is ?_
            refine ex_nil ?_
            refine .inl ⟨rfl, some (.int i), vc, ?_⟩
            rw [show bandP most (S.band * 6) bits S.column (min (S.column + S.many) most) S.colour S.pts (i + 1) = _ from if_pos hc2]
        · refine ex_nil ?_
          refine next_is ?_
          refine ex_nil ?_
          refine .inl ⟨rfl, some (.int i), vc, ?_⟩
          rw [show bandP most (S.band * 6) bits S.column (min (S.column + S.many) most) S.colour S.pts (i + 1) = _ from if_neg hc2]
      · obtain ⟨vb, vc, rfl⟩ := hI
        refine ⟨.rng (.head _) hR1, ?_⟩
        rw [range_len]
        refine ex_nil ?_
        refine next_is ?_
        refine ex_attr ?_
        refine ev_callB (ev_glob (by assumption) (.tail _ (.tail _ (.head _))) (gv_max _) ⟨_, rfl, ?_⟩)
        refine ar_cons ?_
        refine ev_attr ?_
        refine ev_loc (by assumption) (.tail _ (.head _)) .head ?_
        refine ga_inst (by assumption) (.tail _ (.tail _ (.head _))) (.tail _ (.tail _ (.tail _ (.head _)))) ((.tail (.tail (.tail (.tail (.tail .head)))))) rfl ?_
        refine ar_cons ?_
        refine ev_loc (by assumption) (.tail _ (.head _)) (.tail (.tail .head)) ?_
        refine ar_nil ?_
        refine b_max (by assumption) ?_
        refine ev_loc (by assumption) (.tail _ (.head _)) .head ?_
        refine sa_inst (by assumption) (.tail _ (.tail _ (.head _))) ((.tail (.tail (.tail .head)))) ((.tail (.tail (.tail (.tail (.tail .head)))))) rfl ?_
        refine ex_nil ?_
        refine ⟨_, _, .next, ?_, h⟩
        exact (.pick (.tail (.tail .head)) (.pick (.tail (.tail .head)) (.pick (.tail (.tail .head)) (.pick (.tail (.tail .head)) (.pick (.tail (.tail .head)) (.tails (.tails .rfl)))))))
    · have e := show drawI most S bits = _ from if_neg hc
      rw [e] at h
      refine ex_nil ?_
      refine next_is ?_
      refine ex_attr ?_
      refine ev_callB (ev_glob (by assumption) (.tail _ (.tail _ (.head _))) (gv_max _) ⟨_, rfl, ?_⟩)
      refine ar_cons ?_
      refine ev_attr ?_
      refine ev_loc (by assumption) (.head _) .head ?_
      refine ga_inst (by assumption) (.tail _ (.head _)) (.tail _ (.tail _ (.head _))) ((.tail (.tail (.tail (.tail (.tail .head)))))) rfl ?_
      refine ar_cons ?_
      refine ev_loc (by assumption) (.head _) (.tail (.tail .head)) ?_
      refine ar_nil ?_
      refine b_max (by assumption) ?_
      refine ev_loc (by assumption) (.head _) .head ?_
      refine sa_inst (by assumption) (.tail _ (.head _)) ((.tail (.tail .head))) ((.tail (.tail (.tail (.tail (.tail .head)))))) rfl ?_
      refine ex_nil ?_
      exact ⟨_, _, .next, .tail, h⟩
end Mine
end
section
open PySem PySem.W PySem.Calls PyProof.Rows
namespace Mine
noncomputable def lastI (ns : List Int) : Int := ns.getLastD 0
noncomputable def putI (most : Int) (S : RS) (o : Int) : RS :=
  if 48 ≤ o ∧ o ≤ 57 then (if S.command ≠ 0 ∧ S.nums.length ≤ 8 then { S with nums := S.nums.dropLast ++ [max 0 (min (lastI S.nums * 10 + o - 48) 32767)] } else S)
  else if o = 59 then (if S.command ≠ 0 ∧ S.nums.length ≤ 8 then { S with nums := S.nums ++ [0] } else S)
  else if o = 33 ∨ o = 34 ∨ o = 35 then { endI most S with command := o, nums := [0] }
  else if 63 ≤ o ∧ o ≤ 126 then { drawI most (endI most S) (o - 63) with many := 1 }
  else if o = 36 ∨ o = 45 then { endI most S with column := 0, band := (endI most S).band + (if o = 45 then 1 else 0), many := 1 }
  else endI most S
structure Ok (most : Int) (k : Nat) (S : RS) : Prop where
  m1 : 1 ≤ most
  m2 : most ≤ 14
  c0 : 0 ≤ S.column
  c1 : S.column ≤ most
  many : 1 ≤ S.many
  many2 : S.many ≤ 32767
  b0 : 0 ≤ S.band
  b1 : S.band ≤ k
  p : S.pts.length ≤ 84 * k
  cmd : S.command ≠ 0 → S.nums ≠ []
  len : S.nums.length ≤ 9
  pos : ∀ x ∈ S.nums, 0 ≤ x ∧ x ≤ 32767
  cols : S.cols.length ≤ k
theorem Ok.r {most : Int} {k : Nat} {S : RS} (h : Ok most k S) (hk : k ≤ 1000) : ROk most S := ⟨h.cmd, h.len, h.pos, Nat.le_trans h.cols hk⟩
theorem Ok.d {most : Int} {k : Nat} {S : RS} (h : Ok most k S) (hk : k ≤ 1000) : DOk most S := ⟨h.m1, h.m2, h.c0, h.c1, h.many, h.many2, h.b0, by have := h.b1; omega, by have := h.p; omega⟩
theorem tell_same (S : RS) (w p0 p1 p2 : Int) : ∃ c, tellI S w p0 p1 p2 = { S with cols := c } ∧ c.length ≤ S.cols.length + 1 := by
  unfold tellI
  split
  · exact ⟨_, rfl, dput_length ..⟩
  · split
    · exact ⟨_, rfl, dput_length ..⟩
    · exact ⟨S.cols, rfl, Nat.le_succ _⟩
theorem end_same (most : Int) (S : RS) (h : ∀ x ∈ S.nums, 0 ≤ x ∧ x ≤ 32767) : ∃ m c a t cl, endI most S = { S with command := 0, many := m, colour := c, asp := a, told := t, cols := cl } ∧ (m = S.many ∨ (1 ≤ m ∧ m ≤ 32767)) ∧ cl.length ≤ S.cols.length + 1 := by
  have q := n0_pos h 0
  unfold endI
  dsimp only
  split
  · exact ⟨_, _, _, _, _, rfl, .inr ⟨by omega, by omega⟩, Nat.le_succ _⟩
  · split
    · split
      · obtain ⟨c, e, hc⟩ := tell_same { S with command := 0, colour := n0 S.nums 0 % 256 } (n0 S.nums 1) (n0 S.nums 2) (n0 S.nums 3) (n0 S.nums 4)
        rw [e]
        exact ⟨_, _, _, _, _, rfl, .inl rfl, hc⟩
      · exact ⟨_, _, _, _, _, rfl, .inl rfl, Nat.le_succ _⟩
    · split
      · exact ⟨_, _, _, _, _, rfl, .inl rfl, Nat.le_succ _⟩
      · exact ⟨_, _, _, _, _, rfl, .inl rfl, Nat.le_succ _⟩
theorem Ok.end {most : Int} {k : Nat} {S : RS} (h : Ok most k S) : Ok most (k + 1) (endI most S) := by
  obtain ⟨m, c, a, t, cl, e, hm, hc⟩ := end_same most S h.pos
  rw [e]
  obtain ⟨m1, m2, c0, c1, many, many2, b0, b1, p, cmd, len, pos, cols⟩ := h
  refine ⟨m1, m2, c0, c1, ?_, ?_, b0, ?_, ?_, fun q => (q rfl).elim, len, pos, ?_⟩
  · show 1 ≤ m; omega
  · show m ≤ 32767; omega
  · show S.band ≤ _; omega
  · show S.pts.length ≤ _; omega
  · show cl.length ≤ _; omega
theorem draw_len {most : Int} {S : RS} {b : Int} (m2 : most ≤ 14) (c0 : 0 ≤ S.column) : (drawI most S b).pts.length ≤ S.pts.length + 84 := by
  unfold drawI
  split
  · exact bandP_len (most := most) (top := S.band * 6) (bits := b) (v := S.colour) S.pts (by omega) 6
  · exact Nat.le_add_right _ _
theorem draw_col {most : Int} {S : RS} {b : Int} : (drawI most S b).column = max S.column (min (S.column + S.many) most) ∧ (drawI most S b).band = S.band ∧ (drawI most S b).command = S.command ∧ (drawI most S b).nums = S.nums ∧ (drawI most S b).cols = S.cols := by
  unfold drawI
  split <;> exact ⟨rfl, rfl, rfl, rfl, rfl⟩
theorem Ok.put {most : Int} {k : Nat} {S : RS} {o : Int} (h : Ok most k S) : Ok most (k + 1) (putI most S o) := by
  have he := h.end
  obtain ⟨m1, m2, c0, c1, many, many2, b0, b1, p, cmd, len, pos, cols⟩ := h
  have same : Ok most (k + 1) S := ⟨m1, m2, c0, c1, many, many2, b0, by omega, by omega, cmd, len, pos, by omega⟩
  unfold putI
  split
  · split
    · refine ⟨m1, m2, c0, c1, many, many2, b0, by dsimp only; omega, by dsimp only; omega, fun _ q => ?_, ?_, fun x hx => ?_, by dsimp only; omega⟩
      · dsimp only at q; simp at q
      · show (S.nums.dropLast ++ [_]).length ≤ 9
        rw [List.length_append, List.length_dropLast]; show _ + 1 ≤ 9; omega
      · dsimp only at hx
        rcases List.mem_append.mp hx with hx | hx
        · exact pos x (List.dropLast_subset _ hx)
        · rw [List.mem_singleton] at hx; omega
    · exact same
  · split
    · split
      · refine ⟨m1, m2, c0, c1, many, many2, b0, by dsimp only; omega, by dsimp only; omega, fun _ q => ?_, ?_, fun x hx => ?_, by dsimp only; omega⟩
        · dsimp only at q; simp at q
        · show (S.nums ++ [0]).length ≤ 9
          rw [List.length_append]; show _ + 1 ≤ 9; omega
        · dsimp only at hx
          rcases List.mem_append.mp hx with hx | hx
          · exact pos x hx
          · rw [List.mem_singleton] at hx; omega
      · exact same
    · obtain ⟨m1, m2, c0, c1, many, many2, b0, b1, p', cmd, len, pos, cols'⟩ := he
      split
      · exact ⟨m1, m2, c0, c1, many, many2, b0, b1, p', fun _ => by simp, by simp, fun x hx => by (have q : x = 0 := by simpa using hx); subst q; decide, cols'⟩
      · split
        · have h1 := draw_len (S := endI most S) (b := o - 63) m2 c0
          obtain ⟨e1, e2, e3, e4, e5⟩ := draw_col (most := most) (S := endI most S) (b := o - 63)
          have e0 : (endI most S).pts = S.pts := by obtain ⟨_, _, _, _, _, e, _⟩ := end_same most S (by assumption); rw [e]
          refine ⟨m1, m2, ?_, ?_, by dsimp only; omega, by dsimp only; omega, ?_, ?_, ?_, ?_, ?_, ?_, ?_⟩ <;> dsimp only
          · rw [e1]; omega
          · rw [e1]; omega
          · rw [e2]; exact b0
          · rw [e2]; exact b1
          · rw [e0] at h1; omega
          · rw [e3, e4]; exact cmd
          · rw [e4]; exact len
          · rw [e4]; exact pos
          · rw [e5]; exact cols'
        · split
          · have hb : (endI most S).band ≤ k := by obtain ⟨_, _, _, _, _, e, _⟩ := end_same most S (by assumption); rw [e]; assumption
            refine ⟨m1, m2, by dsimp only; omega, by dsimp only; omega, by dsimp only; omega, by dsimp only; omega, ?_, ?_, p', cmd, len, pos, cols'⟩ <;> dsimp only <;> split <;> omega
          · exact ⟨m1, m2, c0, c1, many, many2, b0, b1, p', cmd, len, pos, cols'⟩
theorem last_int {ns : List Int} (h : ns ≠ []) : At (ns.map AV.int) (-1) (.int (lastI ns)) := by
  refine .last (ys := (ns.dropLast).map AV.int) ?_
  rw [show [AV.int (lastI ns)] = [lastI ns].map AV.int from rfl, ← List.map_append]
  congr 1
  unfold lastI
  rw [List.getLastD_eq_getLast?, List.getLast?_eq_getLast h]
  exact (List.dropLast_concat_getLast h).symm
theorem last_set {ns : List Int} (h : ns ≠ []) (v : Int) : (ns.dropLast ++ [v]).map AV.int = (ns.map AV.int).set (ns.length - 1) (.int v) := by
  have e := List.dropLast_concat_getLast h
  conv => rhs; rw [← e]
  rw [List.map_append, List.map_append, List.set_append_right _ _ (by simp [List.length_dropLast])]
  simp
theorem last_idx {ns : List Int} (h : ns ≠ []) : seqIndex? (-1) (ns.map AV.int).length = some (ns.length - 1) := by
  have : 0 < ns.length := List.length_pos_iff.mpr h
  rw [List.length_map]
  unfold seqIndex?
  have e1 : ((-1 : Int) + (ns.length : Int)) = ((ns.length - 1 : Nat) : Int) := by omega
  rw [if_pos (show (-1 : Int) < 0 by decide), e1]
  rw [if_pos (by simp only [Bool.and_eq_true, decide_eq_true_eq]; omega)]
  simp
theorem ex_ifP {C : Cx} {A : Around} {l : List Ent} {env : Env} {t : Expr} {b o : List Stmt} {pos : Pos} {rest : List Stmt} {Φ : AF → List Ent → Prop} (P : List Ent → Prop)
    (h : WB C A l (isTrue t env (eval t env)) fun c l₁ => (c = true → WF C A l₁ (execs b env) fun fl l₂ => fl = .next ∧ P l₂) ∧ (c = false → WF C A l₁ (execs o env) fun fl l₂ => fl = .next ∧ P l₂))
    (k : ∀ l₂, P l₂ → WF C A l₂ (execs rest env) Φ) : WF C A l (execs (.If t b o pos :: rest) env) Φ :=
  ex_if (Wr.mono h fun _ _ ⟨h1, h2⟩ => ⟨fun e => Wr.mono (h1 e) fun _ _ ⟨e, p⟩ => ⟨fun _ => k _ p, fun n => (n e).elim⟩, fun e => Wr.mono (h2 e) fun _ _ ⟨e, p⟩ => ⟨fun _ => k _ p, fun n => (n e).elim⟩⟩)
theorem put_spec {C : Cx} {A : Around} {n k : Nat} {l : List Ent} {most o : Int} {a d dp dc ln : Addr} {S : RS} {Φ : AV → List Ent → Prop} (r : Room A (n + 9)) (O : Ok most k S) (hk : k ≤ 999) (ho : 0 ≤ o)
    (h : ∀ ln', Φ .none (rdr C most a d dp dc ln' (putI most S o) l)) : Wn C A Is (rdr C most a d dp dc ln S l) [.ref a, .int o] (fun vs => call (.ref 91) vs) Φ := by
  have ho' : (Kf C).lookup 91 = some _ := rfl
  have hK := cls_reader C
  refine call_plain (fd := _) (body := _) (params := [Str.ofString "self", Str.ofString "octet"]) (rest := []) (names := [Str.ofString "self", Str.ofString "octet"]) (vals := [some (.ref a), some (.int o)]) (n := n + 8)
    ⟨⟨_, C.kin _ _ ho', rfl⟩, codeRec_of C.kin rfl, rfl, rfl, rfl, rfl, rfl, rfl, rfl⟩ r (fun s vs _ hl => ?_) rfl rfl rfl (by decide) rfl rfl fun env E r' => ?_
  · obtain ⟨x, y, rfl⟩ := len2 hl
    exact .of_eq rfl
  · clear ho'
    have hT := E.loc (names := [Str.ofString "self", Str.ofString "octet"]) rfl rfl
    have hG := E.glob (names := [Str.ofString "len", Str.ofString "SIXEL_MOST_NUMBERS", Str.ofString "clamp", Str.ofString "SIXEL_GREATEST", Str.ofString "SIXEL_SEMICOLON", Str.ofString "SIXEL_REPEAT", Str.ofString "SIXEL_SIZE", Str.ofString "SIXEL_COLOUR", Str.ofString "SIXEL_FIRST", Str.ofString "SIXEL_LAST", Str.ofString "SIXEL_BACK", Str.ofString "SIXEL_NEXT_BAND", Str.ofString "int"]) rfl rfl
    have hlen9 : (S.nums.map AV.int).length ≤ 9 := by rw [List.length_map]; exact O.len
    have hlen : (S.nums.map AV.int).length ≤ 100000 := by omega
    have hE := O.end
    have hI := E.inter rfl
    refine ex_if ?_
    refine tr_is (p := 48 ≤ o ∧ o ≤ 57) ?_ ?_
    · refine Wr.hide fun Ψ1 hΨ1 => ?_
      refine tr_chain ?_
      refine ev_int ?_
      refine ev_loc (by assumption) (.head _) (.tail .head) ?_
      refine c2_le ?_
      refine ⟨_, .bool _, ?_⟩
      refine dec_split (fun hc => ?_) (fun hc => ?_)
      · refine ev_int ?_
        refine c2_le ?_
        refine ⟨_, .bool _, ?_⟩
        refine Imp.use hΨ1 ?_
        exact ⟨decide_eq_decide.mpr ⟨fun q => ⟨by assumption, q⟩, fun q => q.2⟩, rfl⟩
      · refine Imp.use hΨ1 ?_
        exact ⟨(decide_eq_false fun q => absurd q.1 (by assumption)).symm, rfl⟩
    refine dec_split (fun hA => ?_) (fun hA => ?_)
    · refine ex_if ?_
      refine tr_is (p := S.command ≠ 0 ∧ (S.nums.map AV.int).length ≤ 8) ?_ ?_
      · refine Wr.hide fun Ψ1 hΨ1 => ?_
        refine tr_and ?_
        refine tr_cmp ?_
        refine ev_attr ?_
        refine ev_loc (by assumption) (.head _) .head ?_
        refine ga_inst (by assumption) (.tail _ (.head _)) (.tail _ (.tail _ (.head _))) ((.tail (.tail (.tail (.tail (.tail (.tail (.tail (.tail (.tail (.tail (.tail .head)))))))))))) rfl ?_
        refine ev_int ?_
        refine c2_ne ?_
        refine ⟨_, .bool _, ?_⟩
        refine dec_split (fun hc => ?_) (fun hc => ?_)
        · refine tr_and ?_
          refine tr_cmp ?_
          refine Wr.hide fun Ψ2 hΨ2 => ?_
          refine ev_callB (ev_glob (by assumption) (.head _) (gv_len _) ⟨_, rfl, ?_⟩)
          refine ar_cons ?_
          refine ev_attr ?_
          refine ev_loc (by assumption) (.head _) .head ?_
          refine ga_inst (by assumption) (.tail _ (.head _)) (.tail _ (.tail _ (.head _))) ((.tail (.tail (.tail (.tail (.tail (.tail (.tail (.tail (.tail (.tail (.tail (.tail .head))))))))))))) rfl ?_
          refine ar_nil ?_
          refine b_len_list (.tail _ (.tail _ (.tail _ (.tail _ (.tail _ (.head _)))))) (by assumption) ?_
          refine Imp.use hΨ2 ?_
          refine ev_glob (by assumption) (.tail _ (.head _)) (gv_MOST_NUMBERS _) ?_
          refine c2_le ?_
          refine ⟨_, .bool _, ?_⟩
          refine dec_split (fun hc => ?_) (fun hc => ?_)
          · refine tr_and_nil ?_
            refine Imp.use hΨ1 ?_
            exact ⟨(decide_eq_true ⟨by assumption, by omega⟩).symm, rfl⟩
          · refine Imp.use hΨ1 ?_
            exact ⟨(decide_eq_false fun q => by omega).symm, rfl⟩
        · refine Imp.use hΨ1 ?_
          exact ⟨(decide_eq_false fun q => absurd q.1 (by assumption)).symm, rfl⟩
      refine dec_split (fun hB => ?_) (fun hB => ?_)
      · refine Wr.hide fun Ψ1 hΨ1 => ?_
        refine ex_sub ?_
        refine Wr.hide fun Ψ2 hΨ2 => ?_
        refine ev_callK (ev_glob (by assumption) (.tail _ (.tail _ (.head _))) (gv_clamp _) ⟨_, rfl, rfl, ?_⟩)
        refine ar_cons ?_
        refine Wr.hide fun Ψ3 hΨ3 => ?_
        refine ev_bin ?_
        refine ev_bin ?_
        refine Wr.hide fun Ψ4 hΨ4 => ?_
        refine ev_bin ?_
        refine ev_sub ?_
        refine ev_attr ?_
        refine ev_loc (by assumption) (.head _) .head ?_
        refine ga_inst (by assumption) (.tail _ (.head _)) (.tail _ (.tail _ (.head _))) ((.tail (.tail (.tail (.tail (.tail (.tail (.tail (.tail (.tail (.tail (.tail (.tail .head))))))))))))) rfl ?_
        refine ev_un ?_
        refine ev_int ?_
        refine o1_neg ?_
        refine gi_list (.tail _ (.tail _ (.tail _ (.tail _ (.tail _ (.head _)))))) (last_int (O.cmd hB.1)) hlen ?_
        refine ev_int ?_
        refine o2_mul (mulOk (by omega) (by omega)) ?_
        refine Imp.use hΨ4 ?_
        refine ev_loc (by assumption) (.head _) (.tail .head) ?_
        refine o2_add ?_
        refine ev_int ?_
        refine o2_sub ?_
        refine Imp.use hΨ3 ?_
        refine ar_cons ?_
        refine ev_int ?_
        refine ar_cons ?_
        refine ev_glob (by assumption) (.tail _ (.tail _ (.tail _ (.head _)))) (gv_GREATEST _) ?_
        refine ar_nil ?_
        refine clamp_spec r' ?_
        refine Imp.use hΨ2 ?_
        refine ev_attr ?_
        refine ev_loc (by assumption) (.head _) .head ?_
        refine ga_inst (by assumption) (.tail _ (.head _)) (.tail _ (.tail _ (.head _))) ((.tail (.tail (.tail (.tail (.tail (.tail (.tail (.tail (.tail (.tail (.tail (.tail .head))))))))))))) rfl ?_
        refine ev_un ?_
        refine ev_int ?_
        refine o1_neg ?_
        refine si_list (.tail (.tail (.tail (.tail (.tail .head))))) (last_set (O.cmd hB.1) _) (last_idx (O.cmd hB.1)) ?_ (by decide) ?_
        · have := List.length_pos_iff.mpr (O.cmd hB.1)
          rw [List.length_map]; omega
        refine ex_nil ?_
        refine Imp.use hΨ1 ?_
        refine next_is ?_
        refine ex_nil ?_
        refine next_is ?_
        refine ex_nil ?_
        refine ⟨_, _, .next, .tail, ?_⟩
        have e : putI most S o = { S with nums := S.nums.dropLast ++ [max 0 (min (lastI S.nums * 10 + o - 48) 32767)] } := by unfold putI; rw [if_pos hA, if_pos (by rw [List.length_map] at hB; exact hB)]
        rw [e] at h
        exact h ln
      · refine ex_nil ?_
        refine next_is ?_
        refine ex_nil ?_
        refine next_is ?_
        refine ex_nil ?_
        refine ⟨_, _, .next, .tail, ?_⟩
        have e : putI most S o = S := by unfold putI; rw [if_pos hA, if_neg (by rw [List.length_map] at hB; exact hB)]
        rw [e] at h
        exact h ln
    · refine ex_if ?_
      refine Wr.hide fun Ψ1 hΨ1 => ?_
      refine tr_cmp ?_
      refine ev_loc (by assumption) (.head _) (.tail .head) ?_
      refine ev_glob (by assumption) (.tail _ (.tail _ (.tail _ (.tail _ (.head _))))) (gv_SEMICOLON _) ?_
      refine c2_eq ?_
      refine ⟨_, .bool _, ?_⟩
      refine Imp.use hΨ1 ?_
      refine dec_split (fun hc => ?_) (fun hc => ?_)
      · refine ex_if ?_
        refine tr_is (p := S.command ≠ 0 ∧ (S.nums.map AV.int).length ≤ 8) ?_ ?_
        · refine Wr.hide fun Ψ2 hΨ2 => ?_
          refine tr_and ?_
          refine tr_cmp ?_
          refine ev_attr ?_
          refine ev_loc (by assumption) (.head _) .head ?_
          refine ga_inst (by assumption) (.tail _ (.head _)) (.tail _ (.tail _ (.head _))) ((.tail (.tail (.tail (.tail (.tail (.tail (.tail (.tail (.tail (.tail (.tail .head)))))))))))) rfl ?_
          refine ev_int ?_
          refine c2_ne ?_
          refine ⟨_, .bool _, ?_⟩
          refine dec_split (fun hc => ?_) (fun hc => ?_)
          · refine tr_and ?_
            refine tr_cmp ?_
            refine Wr.hide fun Ψ3 hΨ3 => ?_
            refine ev_callB (ev_glob (by assumption) (.head _) (gv_len _) ⟨_, rfl, ?_⟩)
            refine ar_cons ?_
            refine ev_attr ?_
            refine ev_loc (by assumption) (.head _) .head ?_
            refine ga_inst (by assumption) (.tail _ (.head _)) (.tail _ (.tail _ (.head _))) ((.tail (.tail (.tail (.tail (.tail (.tail (.tail (.tail (.tail (.tail (.tail (.tail .head))))))))))))) rfl ?_
            refine ar_nil ?_
            refine b_len_list (.tail _ (.tail _ (.tail _ (.tail _ (.tail _ (.head _)))))) (by assumption) ?_
            refine Imp.use hΨ3 ?_
            refine ev_glob (by assumption) (.tail _ (.head _)) (gv_MOST_NUMBERS _) ?_
            refine c2_le ?_
            refine ⟨_, .bool _, ?_⟩
            refine dec_split (fun hc => ?_) (fun hc => ?_)
            · refine tr_and_nil ?_
              refine Imp.use hΨ2 ?_
              exact ⟨(decide_eq_true ⟨by assumption, by omega⟩).symm, rfl⟩
            · refine Imp.use hΨ2 ?_
              exact ⟨(decide_eq_false fun q => by omega).symm, rfl⟩
          · refine Imp.use hΨ2 ?_
            exact ⟨(decide_eq_false fun q => absurd q.1 (by assumption)).symm, rfl⟩
        refine dec_split (fun hB => ?_) (fun hB => ?_)
        · refine Wr.hide fun Ψ2 hΨ2 => ?_
          refine ex_expr ?_ (by assumption)
          refine ev_bm bm_append ?_
          refine ev_attr ?_
          refine ev_loc (by assumption) (.head _) .head ?_
          refine ga_inst (by assumption) (.tail _ (.head _)) (.tail _ (.tail _ (.head _))) ((.tail (.tail (.tail (.tail (.tail (.tail (.tail (.tail (.tail (.tail (.tail (.tail .head))))))))))))) rfl ?_
          refine ⟨.list (.tail _ (.tail _ (.tail _ (.tail _ (.tail _ (.head _)))))), ?_⟩
          refine ar_cons ?_
          refine ev_int ?_
          refine ar_nil ?_
          refine m_append (.tail (.tail (.tail (.tail (.tail .head))))) hlen ?_
          refine ⟨rfl, ?_⟩
          refine ex_nil ?_
          refine Imp.use hΨ2 ?_
          refine next_is ?_
          refine ex_nil ?_
          refine next_is ?_
          refine ex_nil ?_
          refine next_is ?_
          refine ex_nil ?_
          refine ⟨_, _, .next, .tail, ?_⟩
          have e : putI most S o = { S with nums := S.nums ++ [0] } := by unfold putI; rw [if_neg hA, if_pos (by assumption), if_pos (by rw [List.length_map] at hB; exact hB)]
          rw [e] at h
          have e5 : List.map AV.int (S.nums ++ [0]) = List.map AV.int S.nums ++ [AV.int 0] := List.map_append
          rw [← e5]
          exact h ln
        · refine ex_nil ?_
          refine next_is ?_
          refine ex_nil ?_
          refine next_is ?_
          refine ex_nil ?_
          refine next_is ?_
          refine ex_nil ?_
          refine ⟨_, _, .next, .tail, ?_⟩
          have e : putI most S o = S := by unfold putI; rw [if_neg hA, if_pos (by assumption), if_neg (by rw [List.length_map] at hB; exact hB)]
          rw [e] at h
          exact h ln
      · refine Wr.hide fun Ψ2 hΨ2 => ?_
        refine ex_expr ?_ (by assumption)
        refine ev_meth0 (g := 98) ?_ rfl rfl
        refine ev_loc (by assumption) (.head _) .head ?_
        refine ⟨_, 118, _, _, _, rfl, hK, .tail _ (.head _), .tail _ (.tail _ (.head _)), rfl, by decide, ?_⟩
        refine .gives (.pick (.tail .head) (.pick (.tail .head) (.pick (.tail .head) (.pick (.tail .head) (.pick (.tail .head) .rfl))))) ?_
        refine end_spec (n := n + 1) r' (O.r (by omega)) ?_
        refine ⟨rfl, ?_⟩
        refine .gives (.pick (.tail (.tail (.tail (.tail (.tail .head))))) .rfl) ?_
        have e0 : putI most S o = if o = 33 ∨ o = 34 ∨ o = 35 then { endI most S with command := o, nums := [0] } else if 63 ≤ o ∧ o ≤ 126 then { drawI most (endI most S) (o - 63) with many := 1 }
          else if o = 36 ∨ o = 45 then { endI most S with column := 0, band := (endI most S).band + (if o = 45 then 1 else 0), many := 1 } else endI most S := by unfold putI; rw [if_neg hA, if_neg (by assumption)]
        generalize hS : endI most S = T
        rw [hS] at hE e0
        refine ex_ifP (fun l' => ∃ ln' T', Gives l' (ns env.locals [Str.ofString "self", Str.ofString "octet"] [some (.ref a), some (.int o)] :: rdr C most a d dp dc ln' T' l) ∧ putI most S o = if o = 36 ∨ o = 45 ∨ (63 ≤ o ∧ o ≤ 126) then { T' with many := 1 } else T') ?_ ?_
        · refine Wr.hide fun Ψ3 hΨ3 => ?_
          refine tr_cmp ?_
          refine ev_loc (by assumption) (.head _) (.tail .head) ?_
          refine Wr.hide fun Ψ4 hΨ4 => ?_
          refine ev_tup ?_
          refine ar_cons ?_
          refine ev_glob (by assumption) (.tail _ (.tail _ (.tail _ (.tail _ (.tail _ (.head _)))))) (gv_REPEAT _) ?_
          refine ar_cons ?_
          refine ev_glob (by assumption) (.tail _ (.tail _ (.tail _ (.tail _ (.tail _ (.tail _ (.head _))))))) (gv_SIZE _) ?_
          refine ar_cons ?_
          refine ev_glob (by assumption) (.tail _ (.tail _ (.tail _ (.tail _ (.tail _ (.tail _ (.tail _ (.head _)))))))) (gv_COLOUR _) ?_
          refine ar_nil ?_
          refine ⟨Nat.le_of_ble_eq_true rfl, ?_⟩
          refine Imp.use hΨ4 ?_
          refine c2_in_tup (js := [33, 34, 35]) rfl ?_
          refine ⟨_, .bool _, ?_⟩
          refine Imp.use hΨ3 ?_
          refine dec_split (fun hc => ?_) (fun hc => ?_)
          · have q : o = 33 ∨ o = 34 ∨ o = 35 := by simpa using hc
            refine Wr.hide fun Ψ5 hΨ5 => ?_
            refine ex_attr ?_
            refine ev_loc (by assumption) (.head _) (.tail .head) ?_
            refine ev_loc (by assumption) (.head _) .head ?_
            refine sa_inst (by assumption) (.tail _ (.head _)) ((.tail (.tail .head))) ((.tail (.tail (.tail (.tail (.tail (.tail (.tail (.tail (.tail (.tail (.tail .head)))))))))))) rfl ?_
            refine ex_attr ?_
            refine ev_list ?_
            refine ar_cons ?_
            refine ev_int ?_
            refine ar_nil ?_
            refine ⟨Nat.le_of_ble_eq_true rfl, fun ln2 => ?_⟩
            refine ev_loc (by assumption) (.tail _ (.head _)) .head ?_
            refine sa_inst (by assumption) (.tail _ (.tail _ (.head _))) ((.tail (.tail (.tail .head)))) ((.tail (.tail (.tail (.tail (.tail (.tail (.tail (.tail (.tail (.tail (.tail (.tail .head))))))))))))) rfl ?_
            refine ex_nil ?_
            refine Imp.use hΨ5 ?_
            refine ⟨rfl, ln2, { T with command := o, nums := [0] }, ?_, ?_⟩
            · exact (.pick (.tail .head) (.pick (.tail .head) (.pick (.tail .head) (.pick (.tail .head) (.pick (.tail .head) (.pick .head (.tails .rfl)))))))
            · rw [e0, if_pos q, if_neg (by omega)]
          · have q : ¬ (o = 33 ∨ o = 34 ∨ o = 35) := by simpa using hc
            rw [if_neg q] at e0
            refine ex_if ?_
            refine tr_is (p := 63 ≤ o ∧ o ≤ 126) ?_ ?_
            · refine Wr.hide fun Ψ5 hΨ5 => ?_
              refine tr_chain ?_
              refine ev_glob (by assumption) (.tail _ (.tail _ (.tail _ (.tail _ (.tail _ (.tail _ (.tail _ (.tail _ (.head _))))))))) (gv_FIRST _) ?_
              refine ev_loc (by assumption) (.head _) (.tail .head) ?_
              refine c2_le ?_
              refine ⟨_, .bool _, ?_⟩
              refine dec_split (fun hc => ?_) (fun hc => ?_)
              · refine ev_glob (by assumption) (.tail _ (.tail _ (.tail _ (.tail _ (.tail _ (.tail _ (.tail _ (.tail _ (.tail _ (.head _)))))))))) (gv_LAST _) ?_
                refine c2_le ?_
                refine ⟨_, .bool _, ?_⟩
                refine Imp.use hΨ5 ?_
                exact ⟨decide_eq_decide.mpr ⟨fun q => ⟨by assumption, q⟩, fun q => q.2⟩, rfl⟩
              · refine Imp.use hΨ5 ?_
                exact ⟨(decide_eq_false fun q => absurd q.1 (by assumption)).symm, rfl⟩
            refine dec_split (fun hD => ?_) (fun hD => ?_)
            · refine Wr.hide fun Ψ5 hΨ5 => ?_
              refine ex_expr ?_ (by assumption)
              refine ev_meth (g := 110) ?_ rfl rfl
              refine ev_loc (by assumption) (.head _) .head ?_
              refine ⟨_, 118, _, _, _, rfl, hK, .tail _ (.head _), .tail _ (.tail _ (.head _)), rfl, by decide, ?_⟩
              refine ar_cons ?_
              refine Wr.hide fun Ψ6 hΨ6 => ?_
              refine ev_bin ?_
              refine ev_loc (by assumption) (.head _) (.tail .head) ?_
              refine ev_glob (by assumption) (.tail _ (.tail _ (.tail _ (.tail _ (.tail _ (.tail _ (.tail _ (.tail _ (.head _))))))))) (gv_FIRST _) ?_
              refine o2_sub ?_
              refine Imp.use hΨ6 ?_
              refine ar_nil ?_
              refine .gives (.pick (.tail .head) (.pick (.tail .head) (.pick (.tail .head) (.pick (.tail .head) (.pick (.tail .head) .rfl))))) ?_
              refine draw_spec (n := n + 5) r' (hE.d (by omega)) (by omega) ?_
              refine ⟨rfl, ?_⟩
              refine ex_nil ?_
              refine Imp.use hΨ5 ?_
              refine next_is ?_
              refine ex_nil ?_
              refine ⟨rfl, ln, drawI most T (o - 63), ?_, ?_⟩
              · exact (.pick (.tail (.tail (.tail (.tail (.tail .head))))) (.pick .head (.pick .head (.pick .head (.pick .head (.pick .head .rfl))))))
              · rw [e0, if_pos hD, if_pos (by omega)]
            · rw [if_neg hD] at e0
              refine ex_if ?_
              refine tr_is (p := o = 36 ∨ o = 45) ?_ ?_
              · refine Wr.hide fun Ψ5 hΨ5 => ?_
                refine tr_or ?_
                refine tr_cmp ?_
                refine ev_loc (by assumption) (.head _) (.tail .head) ?_
                refine ev_glob (by assumption) (.tail _ (.tail _ (.tail _ (.tail _ (.tail _ (.tail _ (.tail _ (.tail _ (.tail _ (.tail _ (.head _))))))))))) (gv_BACK _) ?_
                refine c2_eq ?_
                refine ⟨_, .bool _, ?_⟩
                refine dec_split (fun hc => ?_) (fun hc => ?_)
                · refine Imp.use hΨ5 ?_
                  exact ⟨(decide_eq_true (.inl (by assumption))).symm, rfl⟩
                · refine tr_or ?_
                  refine tr_cmp ?_
                  refine ev_loc (by assumption) (.head _) (.tail .head) ?_
                  refine ev_glob (by assumption) (.tail _ (.tail _ (.tail _ (.tail _ (.tail _ (.tail _ (.tail _ (.tail _ (.tail _ (.tail _ (.tail _ (.head _)))))))))))) (gv_NEXT_BAND _) ?_
                  refine c2_eq ?_
                  refine ⟨_, .bool _, ?_⟩
                  refine dec_split (fun hc => ?_) (fun hc => ?_)
                  · refine Imp.use hΨ5 ?_
                    exact ⟨(decide_eq_true (.inr (by assumption))).symm, rfl⟩
                  · refine tr_or_nil ?_
                    refine Imp.use hΨ5 ?_
                    exact ⟨(decide_eq_false fun q => q.elim (by assumption) (by assumption)).symm, rfl⟩
              refine dec_split (fun hF => ?_) (fun hF => ?_)
              · refine Wr.hide fun Ψ5 hΨ5 => ?_
                refine ex_attr ?_
                refine ev_int ?_
                refine ev_loc (by assumption) (.head _) .head ?_
                refine sa_inst (by assumption) (.tail _ (.head _)) ((.tail (.tail .head))) ((.tail (.tail (.tail (.tail (.tail .head)))))) rfl ?_
                refine ex_aug_attr ?_
                refine ev_loc (by assumption) (.head _) .head ?_
                refine ga_inst (by assumption) (.tail _ (.head _)) (.tail _ (.tail _ (.head _))) ((.tail (.tail (.tail (.tail (.tail (.tail .head))))))) rfl ?_
                refine Wr.hide fun Ψ6 hΨ6 => ?_
                refine ev_callT (ev_glob (by assumption) (.tail _ (.tail _ (.tail _ (.tail _ (.tail _ (.tail _ (.tail _ (.tail _ (.tail _ (.tail _ (.tail _ (.tail _ (.head _))))))))))))) (gv_int _) ⟨_, rfl, ?_⟩)
                refine ar_cons ?_
                refine Wr.hide fun Ψ7 hΨ7 => ?_
                refine ev_cmp ?_
                refine ev_loc (by assumption) (.head _) (.tail .head) ?_
                refine ev_glob (by assumption) (.tail _ (.tail _ (.tail _ (.tail _ (.tail _ (.tail _ (.tail _ (.tail _ (.tail _ (.tail _ (.tail _ (.head _)))))))))))) (gv_NEXT_BAND _) ?_
                refine c2_eq ?_
                refine Imp.use hΨ7 ?_
                refine ar_nil ?_
                refine t_int_bool ?_
                rw [show (if decide (o = 45) = true then (1 : Int) else 0) = if o = 45 then 1 else 0 by simp]
                refine Imp.use hΨ6 ?_
                refine i2_add ?_
                refine sa_inst (by assumption) (.tail _ (.head _)) ((.tail (.tail .head))) ((.tail (.tail (.tail (.tail (.tail (.tail .head))))))) rfl ?_
                refine ex_nil ?_
                refine Imp.use hΨ5 ?_
                refine next_is ?_
                refine ex_nil ?_
                refine next_is ?_
                refine ex_nil ?_
                refine ⟨rfl, ln, { T with column := 0, band := T.band + (if o = 45 then 1 else 0) }, ?_, ?_⟩
                · exact (.pick .head (.pick .head (.pick .head (.pick .head (.pick .head (.pick .head .rfl))))))
                · rw [e0, if_pos hF, if_pos (show o = 36 ∨ o = 45 ∨ (63 ≤ o ∧ o ≤ 126) from hF.elim .inl fun q => .inr (.inl q))]
              · refine ex_nil ?_
                refine next_is ?_
                refine ex_nil ?_
                refine next_is ?_
                refine ex_nil ?_
                refine ⟨rfl, ln, T, .rfl, ?_⟩
                rw [e0, if_neg hF, if_neg (by omega)]
        · rintro l' ⟨ln', T', g, e1⟩
          rw [e1] at h
          refine .gives g ?_
          refine ex_if ?_
          refine tr_is (p := o = 36 ∨ o = 45 ∨ (63 ≤ o ∧ o ≤ 126)) ?_ ?_
          · refine Wr.hide fun Ψ3 hΨ3 => ?_
            refine tr_or ?_
            refine tr_cmp ?_
            refine ev_loc (by assumption) (.head _) (.tail .head) ?_
            refine ev_glob (by assumption) (.tail _ (.tail _ (.tail _ (.tail _ (.tail _ (.tail _ (.tail _ (.tail _ (.tail _ (.tail _ (.head _))))))))))) (gv_BACK _) ?_
            refine c2_eq ?_
            refine ⟨_, .bool _, ?_⟩
            refine dec_split (fun hc => ?_) (fun hc => ?_)
            · refine Imp.use hΨ3 ?_
              exact ⟨(decide_eq_true (.inl (by assumption))).symm, rfl⟩
            · refine tr_or ?_
              refine tr_cmp ?_
              refine ev_loc (by assumption) (.head _) (.tail .head) ?_
              refine ev_glob (by assumption) (.tail _ (.tail _ (.tail _ (.tail _ (.tail _ (.tail _ (.tail _ (.tail _ (.tail _ (.tail _ (.tail _ (.head _)))))))))))) (gv_NEXT_BAND _) ?_
              refine c2_eq ?_
              refine ⟨_, .bool _, ?_⟩
              refine dec_split (fun hc => ?_) (fun hc => ?_)
              · refine Imp.use hΨ3 ?_
                exact ⟨(decide_eq_true (.inr (.inl (by assumption)))).symm, rfl⟩
              · refine tr_or ?_
                refine tr_chain ?_
                refine ev_glob (by assumption) (.tail _ (.tail _ (.tail _ (.tail _ (.tail _ (.tail _ (.tail _ (.tail _ (.head _))))))))) (gv_FIRST _) ?_
                refine ev_loc (by assumption) (.head _) (.tail .head) ?_
                refine c2_le ?_
                refine ⟨_, .bool _, ?_⟩
                refine dec_split (fun hc => ?_) (fun hc => ?_)
                · refine ev_glob (by assumption) (.tail _ (.tail _ (.tail _ (.tail _ (.tail _ (.tail _ (.tail _ (.tail _ (.tail _ (.head _)))))))))) (gv_LAST _) ?_
                  refine c2_le ?_
                  refine ⟨_, .bool _, ?_⟩
                  refine dec_split (fun hc => ?_) (fun hc => ?_)
                  · refine Imp.use hΨ3 ?_
                    exact ⟨(decide_eq_true (.inr (.inr ⟨by assumption, by assumption⟩))).symm, rfl⟩
                  · refine tr_or_nil ?_
                    refine Imp.use hΨ3 ?_
                    exact ⟨(decide_eq_false (by omega)).symm, rfl⟩
                · refine ⟨fun q => (nomatch q), fun _ => ?_⟩
                  refine tr_or_nil ?_
                  refine Imp.use hΨ3 ?_
                  exact ⟨(decide_eq_false (by omega)).symm, rfl⟩
          refine dec_split (fun hG => ?_) (fun hG => ?_)
          · refine ex_attr ?_
            refine ev_int ?_
            refine ev_loc (by assumption) (.head _) .head ?_
            refine sa_inst (by assumption) (.tail _ (.head _)) ((.tail (.tail .head))) ((.tail (.tail (.tail (.tail (.tail (.tail (.tail (.tail (.tail (.tail .head))))))))))) rfl ?_
            refine ex_nil ?_
            refine next_is ?_
            refine ex_nil ?_
            refine Imp.use hΨ2 ?_
            refine next_is ?_
            refine ex_nil ?_
            refine next_is ?_
            refine ex_nil ?_
            rw [if_pos hG] at h
            refine ⟨_, _, .next, ?_, h ln'⟩
            exact (.pick (.tail .head) (.pick (.tail .head) (.pick (.tail .head) (.pick (.tail .head) (.pick (.tail .head) (.tails .rfl))))))
          · refine ex_nil ?_
            refine next_is ?_
            refine ex_nil ?_
            refine Imp.use hΨ2 ?_
            refine next_is ?_
            refine ex_nil ?_
            refine next_is ?_
            refine ex_nil ?_
            rw [if_neg hG] at h
            exact ⟨_, _, .next, .tail, h ln'⟩
end Mine
end
section
open PySem PySem.W PySem.Calls PyProof.Rows
namespace Mine
noncomputable abbrev QN : List Str := [Str.ofString "width", Str.ofString "height", Str.ofString "rows", Str.ofString "colours", Str.ofString "aspect"]
noncomputable abbrev QV (w h : Int) (rr cc : Addr) (asp : Int × Int) : List (Option AV) := [some (.int w), some (.int h), some (.ref rr), some (.ref cc), some (pairA asp)]
noncomputable abbrev rst (a d : Addr) (w h : Int) (rr cc : Addr) (asp : Int × Int) (l : List Ent) : List Ent := ins a 54 d :: att d QN (QV w h rr cc asp) :: l
theorem rinit_spec {C : Cx} {A : Around} {n : Nat} {l : List Ent} {w ht : Int} {rr cc : Addr} {asp : Int × Int} {Φ : AV → List Ent → Prop} (r : Room A (n + 4))
    (h : ∀ a d, Φ (.ref a) (rst a d w ht rr cc asp l)) : Wn C A Is l [.int w, .int ht, .ref rr, .ref cc, pairA asp] (fun vs => call (.ref 54) vs) Φ := by
  have ho : (Kf C).lookup 44 = some _ := rfl
  have hK := cls_raster C
  refine make_inst (fd := _) (body := _) (params := [Str.ofString "self", Str.ofString "width", Str.ofString "height", Str.ofString "rows", Str.ofString "colours", Str.ofString "aspect"]) (rest := []) (names := [Str.ofString "self", Str.ofString "width", Str.ofString "height", Str.ofString "rows", Str.ofString "colours", Str.ofString "aspect"]) (anames := QN) (vals := [some (.int w), some (.int ht), some (.ref rr), some (.ref cc), some (pairA asp)]) (n := n + 2)
    ⟨⟨_, C.kin _ _ ho, rfl⟩, codeRec_of C.kin rfl, rfl, rfl, rfl, rfl, rfl, rfl, rfl⟩ r rfl rfl rfl (fun s vs hk hl => ?_) rfl rfl rfl (by decide) rfl (fun _ => rfl) (by decide) (by decide) fun B env a d E r' => ?_
  · obtain ⟨x, y, z, u, v, w, rfl⟩ := len6 hl
    exact .of_defaults rfl (hk _ _ (C.kin _ _ rfl)) rfl rfl rfl
  · clear ho
    have hT := E.loc (names := [Str.ofString "self", Str.ofString "width", Str.ofString "height", Str.ofString "rows", Str.ofString "colours", Str.ofString "aspect"]) rfl rfl
    show WF C B (ns env.locals [Str.ofString "self", Str.ofString "width", Str.ofString "height", Str.ofString "rows", Str.ofString "colours", Str.ofString "aspect"] [some (.ref a), some (.int w), some (.int ht), some (.ref rr), some (.ref cc), some (pairA asp)] :: ins a 54 d :: att d QN [none, none, none, none, none] :: l) _ _
    refine ex_attr ?_
    refine ev_loc (by assumption) (.head _) (.tail .head) ?_
    refine ev_loc (by assumption) (.head _) .head ?_
    refine sa_inst (by assumption) (.tail _ (.head _)) ((.tail (.tail .head))) (.head) rfl ?_
    refine ex_attr ?_
    refine ev_loc (by assumption) (.head _) (.tail (.tail .head)) ?_
    refine ev_loc (by assumption) (.head _) .head ?_
    refine sa_inst (by assumption) (.tail _ (.head _)) ((.tail (.tail .head))) ((.tail .head)) rfl ?_
    refine ex_attr ?_
    refine ev_loc (by assumption) (.head _) (.tail (.tail (.tail .head))) ?_
    refine ev_loc (by assumption) (.head _) .head ?_
    refine sa_inst (by assumption) (.tail _ (.head _)) ((.tail (.tail .head))) ((.tail (.tail .head))) rfl ?_
    refine ex_attr ?_
    refine ev_loc (by assumption) (.head _) (.tail (.tail (.tail (.tail .head)))) ?_
    refine ev_loc (by assumption) (.head _) .head ?_
    refine sa_inst (by assumption) (.tail _ (.head _)) ((.tail (.tail .head))) ((.tail (.tail (.tail .head)))) rfl ?_
    refine ex_attr ?_
    refine ev_loc (by assumption) (.head _) (.tail (.tail (.tail (.tail (.tail .head))))) ?_
    refine ev_loc (by assumption) (.head _) .head ?_
    refine sa_inst (by assumption) (.tail _ (.head _)) ((.tail (.tail .head))) ((.tail (.tail (.tail (.tail .head))))) rfl ?_
    refine ex_nil ?_
    refine ⟨.next, _, ?_, h a d⟩
    exact (.pick (.tail .head) (.pick (.tail .head) (.tails .rfl)))
end Mine
end
section
open PySem PySem.W PySem.Calls PyProof.Rows
namespace Mine
section
variable {K γ : Type} [DecidableEq K]
theorem dget_app {kv : List (K × γ)} {k : K} {v : γ} (q : K) (h : k ∉ kv.map (·.1)) : dget (kv ++ [(k, v)]) q = if q = k then some v else dget kv q := by
  unfold dget
  rw [List.find?_append, List.find?_singleton]
  by_cases e : q = k
  · subst e
    rw [if_pos rfl]
    have : kv.find? (fun p => decide (p.1 = q)) = none := by
      rw [List.find?_eq_none]
      intro p hp hq
      exact h (List.mem_map.mpr ⟨p, hp, of_decide_eq_true hq⟩)
    rw [this]
    simp
  · rw [if_neg e]
    have : decide ((k, v).1 = q) = false := decide_eq_false fun h => e h.symm
    rw [this]
    simp
theorem dget_cons {p : K × γ} {kv : List (K × γ)} (q : K) : dget (p :: kv) q = if p.1 = q then some p.2 else dget kv q := by
  unfold dget
  rw [List.find?_cons]
  by_cases e : p.1 = q
  · rw [decide_eq_true e, if_pos e]; rfl
  · rw [decide_eq_false e, if_neg e]
theorem dget_none {kv : List (K × γ)} {k : K} : dget kv k = none ↔ k ∉ kv.map (·.1) := by
  induction kv with
  | nil => exact ⟨fun _ q => (nomatch q), fun _ => rfl⟩
  | cons p r ih =>
    rw [dget_cons, List.map_cons, List.mem_cons, not_or]
    by_cases e : p.1 = k
    · rw [if_pos e]; exact ⟨fun q => (nomatch q), fun q => (q.1 e.symm).elim⟩
    · rw [if_neg e, ih]; exact ⟨fun q => ⟨fun x => e x.symm, q⟩, fun q => q.2⟩
theorem dput_mem {kv : List (K × γ)} {k : K} {v : γ} (h : k ∈ kv.map (·.1)) : dput kv k v = kv.map fun p => if p.1 = k then (p.1, v) else p := by
  obtain ⟨p, hp, e⟩ := List.mem_map.mp h
  exact if_pos (List.any_eq_true.mpr ⟨p, hp, decide_eq_true e⟩)
theorem dput_not {kv : List (K × γ)} {k : K} {v : γ} (h : k ∉ kv.map (·.1)) : dput kv k v = kv ++ [(k, v)] :=
  if_neg fun q => by
    obtain ⟨p, hp, e⟩ := List.any_eq_true.mp q
    exact h (List.mem_map.mpr ⟨p, hp, of_decide_eq_true e⟩)
theorem dput_keys {kv : List (K × γ)} {k : K} {v : γ} : (dput kv k v).map (·.1) = if k ∈ kv.map (·.1) then kv.map (·.1) else kv.map (·.1) ++ [k] := by
  by_cases h : k ∈ kv.map (·.1)
  · rw [if_pos h, dput_mem h, List.map_map]
    apply List.map_congr_left
    intro p _
    show (if p.1 = k then (p.1, v) else p).1 = p.1
    split <;> rfl
  · rw [if_neg h, dput_not h, List.map_append]; rfl
theorem dput_nodup {kv : List (K × γ)} {k : K} {v : γ} (h : (kv.map (·.1)).Nodup) : ((dput kv k v).map (·.1)).Nodup := by
  rw [dput_keys]
  split
  · exact h
  · rename_i q
    rw [List.nodup_append]
    exact ⟨h, by simp, fun a ha b hb => by rw [List.mem_singleton] at hb; subst hb; exact fun e => q (e ▸ ha)⟩
theorem dget_dput {kv : List (K × γ)} {k : K} {v : γ} (q : K) : dget (dput kv k v) q = if q = k then some v else dget kv q := by
  by_cases h : k ∈ kv.map (·.1)
  · rw [dput_mem h]
    induction kv with
    | nil => cases h
    | cons p r ih =>
      rw [List.map_cons, dget_cons, dget_cons]
      by_cases e : p.1 = k
      · rw [if_pos e]
        by_cases e2 : q = k
        · subst e2; rw [if_pos e, if_pos rfl]
        · rw [if_neg (fun x : p.1 = q => e2 (x.symm.trans e)), if_neg e2, if_neg (fun x : p.1 = q => e2 (x.symm.trans e))]
          by_cases hr : k ∈ r.map (·.1)
          · rw [ih hr, if_neg e2]
          · have : r.map (fun p => if p.1 = k then (p.1, v) else p) = r := by
              conv => rhs; rw [← List.map_id r]
              apply List.map_congr_left
              intro x hx
              rw [if_neg fun y => hr (List.mem_map.mpr ⟨x, hx, y⟩)]; rfl
            rw [this]
      · rw [if_neg e]
        rw [List.map_cons, List.mem_cons] at h
        rcases h with h | h
        · exact (e h.symm).elim
        · rw [ih h]
          by_cases e2 : p.1 = q
          · rw [if_pos e2, if_neg (fun x => e (e2.trans x)), if_pos e2]
          · rw [if_neg e2, if_neg e2]
  · rw [dput_not h, dget_app q h]
end
theorem Wr.nodupKeys {C : Cx} {A : Around} {l : List Ent} {K : Type} [DecidableEq K] {knd : KeyKind prg C.w K} {α β : Type} {rel : PH → β → α → Prop} {a : Addr} {kv : List (K × AV)} {oe : Option Nat} {t : Sem α} {Φ : β → List Ent → Prop} (hm : dic C.w knd a kv oe ∈ l)
    (h : (kv.map (·.1)).Nodup → Wr C A rel l t Φ) : Wr C A rel l t Φ := fun R f s S => by
  obtain ⟨_, _, _, hp, hn⟩ := S.dic (List.mem_append_left R hm)
  exact h (by rw [← hp.keys]; exact hn) R f s S
noncomputable abbrev ZP := List ((Int × Int) × Int)
noncomputable def ptsOf (most : Int) (lp : ZP) : List (Int × Int) := lp.map fun p => (p.1.1 * most + p.1.2, p.2)
noncomputable def cellAt (lp : ZP) (g : Int) (r c : Nat) : Int := (dget lp ((r : Int), (c : Int))).getD g
noncomputable def rowOf (lp : ZP) (g : Int) (w r : Nat) : List Int := (List.range w).map fun c => cellAt lp g r c
noncomputable def gridOf (lp : ZP) (g : Int) (h w : Nat) : List (List Int) := (List.range h).map fun r => rowOf lp g w r
noncomputable def grid (bs : List Addr) (m : List (List Int)) : List Ent := List.zipWith (fun b xs => lst b (xs.map .int)) bs m
theorem gridOf_nil {g : Int} {h w : Nat} : gridOf [] g h w = List.replicate h (List.replicate w g) := by
  unfold gridOf rowOf cellAt
  simp [dget, List.map_const']
theorem row_step {lp : ZP} {g : Int} {w r' : Nat} {r c : Nat} {v : Int} (hn : ((r : Int), (c : Int)) ∉ lp.map (·.1)) :
    rowOf (lp ++ [(((r : Int), (c : Int)), v)]) g w r' = if r' = r then (rowOf lp g w r).set c v else rowOf lp g w r' := by
  unfold rowOf
  apply List.ext_getElem?
  intro j
  by_cases hj : j < w
  · by_cases e : r' = r
    · subst e
      rw [if_pos rfl, List.getElem?_map, List.getElem?_range hj, List.getElem?_set]
      rw [List.getElem?_map, List.getElem?_range hj]
      unfold cellAt
      simp only [Option.map_some]
      rw [dget_app _ hn]
      by_cases e2 : j = c
      · subst e2
        simp [hj]
      · rw [if_neg (fun q => e2 (by have := (Prod.mk.inj q).2; omega)), if_neg (fun q => e2 q.symm)]
    · rw [if_neg e, List.getElem?_map, List.getElem?_map, List.getElem?_range hj]
      unfold cellAt
      simp only [Option.map_some]
      rw [dget_app _ hn, if_neg (fun q => e (by have := (Prod.mk.inj q).1; omega))]
  · have h1 : (List.range w)[j]? = none := List.getElem?_eq_none_iff.mpr (by rw [List.length_range]; omega)
    rw [List.getElem?_map, h1]
    split
    · rw [List.getElem?_set, List.getElem?_map, h1]
      split
      · simp; omega
      · rfl
    · rw [List.getElem?_map, h1]; rfl
theorem grid_step {lp : ZP} {g : Int} {h w : Nat} {r c : Nat} {v : Int} (hn : ((r : Int), (c : Int)) ∉ lp.map (·.1)) :
    gridOf (lp ++ [(((r : Int), (c : Int)), v)]) g h w = (gridOf lp g h w).set r ((rowOf lp g w r).set c v) := by
  unfold gridOf
  apply List.ext_getElem?
  intro j
  rw [List.getElem?_map, List.getElem?_set, List.getElem?_map, List.length_map, List.length_range]
  by_cases hj : j < h
  · rw [List.getElem?_range hj]
    simp only [Option.map_some]
    rw [row_step hn]
    by_cases e : j = r
    · subst e; simp [hj]
    · rw [if_neg e, if_neg (fun q => e q.symm)]
  · have h1 : (List.range h)[j]? = none := List.getElem?_eq_none_iff.mpr (by rw [List.length_range]; omega)
    rw [h1]
    split
    · simp; omega
    · rfl
theorem grid_upd {l : List Ent} {x : List Int} : ∀ {bs : List Addr} {m : List (List Int)} {i : Nat} {b : Addr} {y : List Int}, bs[i]? = some b → m[i]? = some y → Upd1 (lst b (y.map .int)) (lst b (x.map .int)) (grid bs m ++ l) (grid bs (m.set i x) ++ l)
  | b :: bs, y :: m, 0, _, _, h1, h2 => by cases h1; cases h2; exact .head
  | b :: bs, y :: m, i + 1, _, _, h1, h2 => .tail (grid_upd (bs := bs) (m := m) h1 h2)
  | [], _, _, _, _, h1, _ => by simp at h1
  | _ :: _, [], _, _, _, _, h2 => by simp at h2
theorem grid_mem {l : List Ent} {bs : List Addr} {m : List (List Int)} {i : Nat} {b : Addr} {y : List Int} (h1 : bs[i]? = some b) (h2 : m[i]? = some y) : lst b (y.map .int) ∈ grid bs m ++ l := (grid_upd (x := y) h1 h2).mem
theorem grid_new {l : List Ent} {bs : List Addr} {m : List (List Int)} {b : Addr} {x : List Int} (h : bs.length = m.length) : Gives (lst b (x.map .int) :: (grid bs m ++ l)) (grid (bs ++ [b]) (m ++ [x]) ++ l) := by
  unfold grid
  rw [List.zipWith_append h]
  refine .perm ?_
  show (lst b _ :: (grid bs m ++ l)).Perm ((grid bs m ++ [lst b _]) ++ l)
  rw [List.append_assoc]
  exact (List.perm_middle (a := lst b (x.map .int)) (l₁ := grid bs m) (l₂ := l)).symm
end Mine
end
section
open PySem PySem.W PySem.Calls PyProof.Rows
namespace Mine
theorem W1.gives {C : Cx} {A : Around} {l l' : List Ent} {α β : Type} {rel : PH → β → α → Prop} {x : AV} {t : Value → Sem α} {Φ : β → List Ent → Prop} (g : Gives l l') (h : W1 C A rel l' x t Φ) : W1 C A rel l x t Φ := fun R f s v S hv => h R f s v (g.st S) hv
theorem Gives.past {G p l : List Ent} : Gives (G ++ (p ++ l)) (p ++ (G ++ l)) := .perm (by rw [← List.append_assoc, ← List.append_assoc]; exact List.perm_append_comm.append_right l)
theorem Gives.house {e x : Ent} {G p l : List Ent} : Gives (e :: (G ++ (x :: (p ++ l)))) (p ++ (e :: (G ++ l))) :=
  .trans (.perm (List.Perm.cons _ List.perm_middle)) (.trans (.sub (List.Sublist.cons_cons _ (List.Sublist.cons _ (List.Sublist.refl _)))) (.trans (Gives.cons (Gives.past (p := p))) (.perm List.perm_middle.symm)))
theorem dget_mem {K γ : Type} [DecidableEq K] {kv : List (K × γ)} {k : K} {x : γ} (hn : (kv.map (·.1)).Nodup) (h : (k, x) ∈ kv) : dget kv k = some x := by
  induction kv with
  | nil => cases h
  | cons p r ih =>
    rw [List.map_cons, List.nodup_cons] at hn
    rw [dget_cons]
    rcases List.mem_cons.mp h with rfl | h
    · rw [if_pos rfl]
    · rw [if_neg (fun e => hn.1 (by rw [e]; exact List.mem_map.mpr ⟨_, h, rfl⟩)), ih hn.2 h]
theorem used_put {ks : List Int} {k : Int} : dput (ks.map fun k => (k, AV.bool true)) k (.bool true) = (if k ∈ ks then ks else ks ++ [k]).map fun k => (k, AV.bool true) := by
  have e : (ks.map fun k => (k, AV.bool true)).map (·.1) = ks := by rw [List.map_map]; exact List.map_id ks
  by_cases h : k ∈ ks
  · rw [if_pos h, dput_mem (by rw [e]; exact h), List.map_map]
    apply List.map_congr_left
    intro x _
    show (if x = k then (x, AV.bool true) else (x, AV.bool true)) = _
    split <;> rfl
  · rw [if_neg h, dput_not (by rw [e]; exact h), List.map_append]; rfl
noncomputable def lastOf (lp : ZP) : Int := lp.foldl (fun m p => max m (p.1.1 + 1)) 0
theorem foldl_max {lp : ZP} : ∀ (m : Int), m ≤ lp.foldl (fun m p => max m (p.1.1 + 1)) m ∧ (∀ p ∈ lp, p.1.1 + 1 ≤ lp.foldl (fun m p => max m (p.1.1 + 1)) m) ∧ (lp.foldl (fun m p => max m (p.1.1 + 1)) m = m ∨ ∃ p ∈ lp, lp.foldl (fun m p => max m (p.1.1 + 1)) m = p.1.1 + 1) := by
  induction lp with
  | nil => intro m; exact ⟨Int.le_refl _, fun p hp => (nomatch hp), .inl rfl⟩
  | cons q r ih =>
    intro m
    obtain ⟨h1, h2, h3⟩ := ih (max m (q.1.1 + 1))
    rw [List.foldl_cons]
    refine ⟨by omega, fun p hp => ?_, ?_⟩
    · rcases List.mem_cons.mp hp with rfl | hp
      · omega
      · exact h2 p hp
    · rcases h3 with h3 | ⟨p, hp, h3⟩
      · by_cases hm : q.1.1 + 1 ≤ m
        · left; omega
        · right; exact ⟨q, .head _, by omega⟩
      · right; exact ⟨p, .tail _ hp, h3⟩
theorem lastOf_eq {lp : ZP} {m : Int} (h1 : ∃ p ∈ lp, m = p.1.1 + 1) (h2 : ∀ p ∈ lp, p.1.1 + 1 ≤ m) (h0 : ∀ p ∈ lp, 0 ≤ p.1.1) : lastOf lp = m := by
  obtain ⟨a, b, c⟩ := foldl_max (lp := lp) 0
  obtain ⟨p, hp, e⟩ := h1
  have := b p hp
  have := h0 p hp
  unfold lastOf
  rcases c with c | ⟨q, hq, c⟩
  · omega
  · have := h2 q hq; omega
theorem lastOf_le {lp : ZP} {k : Int} (hk : 0 ≤ k) (h : ∀ p ∈ lp, p.1.1 + 1 ≤ k) : lastOf lp ≤ k := by
  obtain ⟨a, b, c⟩ := foldl_max (lp := lp) 0
  unfold lastOf
  rcases c with c | ⟨q, hq, c⟩
  · omega
  · have := h q hq; omega
noncomputable def shapeI (told : Option (Int × Int)) (width bands most : Int) (lp : ZP) : Int × Int := match told with
  | none => (width, min (bands * 6) most)
  | some p => (max width p.1, max (lastOf lp) p.2)
structure Geo (most : Int) (T : RS) (lp : ZP) : Prop where
  m1 : 1 ≤ most
  m2 : most ≤ 14
  pts : T.pts = ptsOf most lp
  nd : (lp.map (·.1)).Nodup
  inn : ∀ p ∈ lp, 0 ≤ p.1.1 ∧ p.1.1 < min (T.bands * 6) most ∧ 0 ≤ p.1.2 ∧ p.1.2 < T.width
  w0 : 0 ≤ T.width
  w1 : T.width ≤ most
  b0 : 0 ≤ T.bands
  told : ∀ p, T.told = some p → 0 ≤ p.1 ∧ p.1 ≤ most ∧ 0 ≤ p.2 ∧ p.2 ≤ most
  ln : lp.length ≤ 84000
  cl : T.cols.length ≤ 1000
theorem keys_pts {most : Int} {lp : ZP} : (ptsA (ptsOf most lp)).map (·.1) = lp.map fun p => p.1.1 * most + p.1.2 := by
  unfold ptsA ptsOf; rw [List.map_map, List.map_map]; rfl
theorem key_div {most r c : Int} (h1 : 0 ≤ c) (h2 : c < most) : (r * most + c) / most = r ∧ (r * most + c) % most = c := by
  have e : r * most + c = c + most * r := by rw [Int.mul_comm r most, Int.add_comm]
  rw [e, Int.add_mul_ediv_left _ _ (by omega), Int.ediv_eq_zero_of_lt h1 h2, Int.add_mul_emod_self_left, Int.emod_eq_of_lt h1 h2]
  exact ⟨by omega, rfl⟩
theorem key_pos {most r c : Int} (h1 : 0 ≤ c) (h2 : c < most) (h3 : 0 ≤ r) (h4 : r < most) (h5 : most ≤ 14) : 0 ≤ r * most + c ∧ r * most + c ≤ 200 := by
  have q1 : 0 ≤ r * most := Int.mul_nonneg h3 (by omega)
  have q2 : r * most ≤ 13 * 14 := Int.mul_le_mul (by omega) h5 (by omega) (by omega)
  omega
theorem geo_last {most : Int} {T : RS} {lp : ZP} (G : Geo most T lp) {m : Int} (h1 : m ∈ (ptsA T.pts).map (·.1)) (h2 : ∀ i ∈ (ptsA T.pts).map (·.1), i ≤ m) : m / most + 1 = lastOf lp ∧ 0 ≤ m ∧ m ≤ 200 := by
  rw [G.pts, keys_pts] at h1 h2
  obtain ⟨p, hp, rfl⟩ := List.mem_map.mp h1
  have w1 := G.w1
  have m2 := G.m2
  obtain ⟨a1, a2, a3, a4⟩ := G.inn p hp
  have hk := key_pos (most := most) a3 (by omega) a1 (by omega) m2
  refine ⟨?_, hk⟩
  rw [(key_div (most := most) a3 (by omega)).1]
  refine (lastOf_eq ⟨p, hp, rfl⟩ (fun q hq => ?_) fun q hq => (G.inn q hq).1).symm
  have := h2 _ (List.mem_map.mpr ⟨q, hq, rfl⟩)
  obtain ⟨b1, b2, b3, b4⟩ := G.inn q hq
  have e1 := (key_div (most := most) (r := p.1.1) a3 (by omega)).1
  have e2 := (key_div (most := most) (r := q.1.1) b3 (by omega)).1
  have := Int.ediv_le_ediv (c := most) (by omega) this
  omega
theorem geo_shape {most : Int} {T : RS} {lp : ZP} (G : Geo most T lp) : (0 ≤ (shapeI T.told T.width T.bands most lp).1 ∧ (shapeI T.told T.width T.bands most lp).1 ≤ 14 ∧ T.width ≤ (shapeI T.told T.width T.bands most lp).1) ∧
    (0 ≤ (shapeI T.told T.width T.bands most lp).2 ∧ (shapeI T.told T.width T.bands most lp).2 ≤ 14 ∧ ∀ p ∈ lp, p.1.1 < (shapeI T.told T.width T.bands most lp).2) := by
  have w0 := G.w0
  have w1 := G.w1
  have m1 := G.m1
  have m2 := G.m2
  have b0 := G.b0
  have ht := G.told
  have h1 : lastOf lp ≤ most := lastOf_le (by omega) fun p hp => by have := (G.inn p hp).2.1; omega
  obtain ⟨q1, q2, _⟩ := foldl_max (lp := lp) 0
  unfold shapeI
  split
  · exact ⟨⟨w0, by dsimp only; omega, Int.le_refl _⟩, by dsimp only; omega, by dsimp only; omega, fun p hp => (G.inn p hp).2.1⟩
  · rename_i p e
    obtain ⟨a1, a2, a3, a4⟩ := ht p e
    refine ⟨⟨by dsimp only; omega, by dsimp only; omega, by dsimp only; omega⟩, by dsimp only; omega, by dsimp only; omega, fun q hq => ?_⟩
    have : q.1.1 + 1 ≤ lastOf lp := q2 q hq
    dsimp only; omega
theorem geo_at {most : Int} {T : RS} {lp : ZP} (G : Geo most T lp) (hn : ((ptsA T.pts).map (·.1)).Nodup) {i : Nat} {y : AV} (h : ((ptsA T.pts).map fun p => AV.int p.1)[i]? = some y) :
    i < lp.length ∧ ∃ (r c : Nat) (v : Int), y = .int ((r : Int) * most + c) ∧ lp[i]? = some (((r : Int), (c : Int)), v) ∧ (r : Int) < most ∧ (c : Int) < T.width ∧ (((r : Int) * most + c) / most = r ∧ ((r : Int) * most + c) % most = c) ∧ dget (ptsA T.pts) ((r : Int) * most + c) = some (.int v) := by
  have hl := (List.getElem?_eq_some_iff.mp h).1
  rw [G.pts] at hl
  unfold ptsA ptsOf at hl
  rw [List.length_map, List.length_map, List.length_map] at hl
  refine ⟨hl, ?_⟩
  have hp : lp[i]? = some lp[i] := List.getElem?_eq_getElem hl
  generalize lp[i] = p at hp
  have hm : p ∈ lp := List.mem_of_getElem? hp
  obtain ⟨⟨r, c⟩, v⟩ := p
  obtain ⟨a1, a2, a3, a4⟩ := G.inn _ hm
  have w1 := G.w1
  dsimp only at a1 a2 a3 a4
  obtain ⟨r, rfl⟩ := Int.eq_ofNat_of_zero_le a1
  obtain ⟨c, rfl⟩ := Int.eq_ofNat_of_zero_le a3
  refine ⟨r, c, v, ?_, hp, by omega, a4, key_div (by omega) (by omega), dget_mem hn ?_⟩
  · rw [G.pts] at h
    unfold ptsA ptsOf at h
    rw [List.getElem?_map, List.getElem?_map, List.getElem?_map, hp] at h
    exact (Option.some.inj h).symm
  · rw [G.pts]
    unfold ptsA ptsOf
    rw [List.map_map]
    exact List.mem_map.mpr ⟨_, hm, rfl⟩
theorem geo_new {most : Int} {T : RS} {lp : ZP} (G : Geo most T lp) {i : Nat} {k : Int × Int} {v : Int} (h : lp[i]? = some (k, v)) : k ∉ (lp.take i).map (·.1) := by
  have hn := G.nd
  obtain ⟨hi, e⟩ := List.getElem?_eq_some_iff.mp h
  have e2 : lp = lp.take i ++ (k, v) :: lp.drop (i + 1) := by rw [← e, List.getElem_cons_drop, List.take_append_drop]
  rw [e2, List.map_append, List.nodup_append] at hn
  exact fun q => hn.2.2 _ q _ (.head _) rfl
noncomputable def colAt (told : List (Int × List Int)) (seen : Int → Bool) (k : Int) : Option (List Int) := match dget told k with
  | some x => some x
  | none => if seen k then some (firstCol k) else none
theorem colAt_step {told : List (Int × List Int)} {l : List Int} {k q : Int} : colAt told (fun x => decide (x ∈ l ++ [k])) q = if dget told q = none ∧ q = k then some (firstCol q) else colAt told (fun x => decide (x ∈ l)) q := by
  unfold colAt
  cases h : dget told q with
  | some x => simp
  | none =>
    by_cases e : q = k
    · subst e; simp
    · simp [e]
theorem raster_spec {C : Cx} {A : Around} {n : Nat} {l : List Ent} {most : Int} {a d dp dc ln : Addr} {S : RS} {fl : Bool} {lp : ZP} {Φ : AV → List Ent → Prop} (r : Room A (n + 9)) (O : ROk most S) (G : Geo most (endI most S) lp)
    (h : ∀ q d' rr cc bs cl, bs.length = (shapeI (endI most S).told (endI most S).width (endI most S).bands most lp).2.toNat → (cl.map (·.1)).Nodup → cl.length ≤ 100000 →
      (∀ k, dget cl k = colAt (endI most S).cols (fun k => decide ((fl = true ∧ 0 < (shapeI (endI most S).told (endI most S).width (endI most S).bands most lp).1 ∧ 0 < (shapeI (endI most S).told (endI most S).width (endI most S).bands most lp).2 ∧ k = 0) ∨ k ∈ lp.map (·.2))) k) →
      Φ (.ref q) (rst q d' (shapeI (endI most S).told (endI most S).width (endI most S).bands most lp).1 (shapeI (endI most S).told (endI most S).width (endI most S).bands most lp).2 rr cc (endI most S).asp (lst rr (bs.map .ref) ::
        (grid bs (gridOf lp (if fl then 0 else -1) (shapeI (endI most S).told (endI most S).width (endI most S).bands most lp).2.toNat (shapeI (endI most S).told (endI most S).width (endI most S).bands most lp).1.toNat) ++ dicI C cc (colsA cl) :: l)))) :
    Wn C A Is (rdr C most a d dp dc ln S l) [.ref a, .bool fl] (fun vs => call (.ref 115) vs) Φ := by
  have ho : (Kf C).lookup 115 = some _ := rfl
  have hK := cls_reader C
  refine call_cels (fd := _) (body := _) (params := [Str.ofString "self", Str.ofString "is_filled"]) (names := [Str.ofString "is_filled", Str.ofString "height", Str.ofString "last", Str.ofString "rows", Str.ofString "used", Str.ofString "place", Str.ofString "number", Str.ofString "colours"]) (cn := [Str.ofString "ground", Str.ofString "width", Str.ofString "self"])
    (vals := [some (.bool fl), none, none, none, none, none, none, none]) (cvals := [none, none, some (.ref a)]) (n := n + 8)
    ⟨⟨_, C.kin _ _ ho, rfl⟩, codeRec_of C.kin rfl, rfl, rfl, rfl, rfl, rfl, rfl, rfl⟩ r (fun vs hl => ?_) rfl rfl rfl (by decide) (by decide) (by decide) (by decide) (.some (.tail .head) (.none (.none (.none (.none (.none (.none (.none .nil)))))))) (.none (.none (.some .head .nil))) fun env cl hcl E r' => ?_
  · obtain ⟨x, y, rfl⟩ := len2 hl
    exact rfl
  · clear ho
    obtain ⟨cg, cw, cs, rfl⟩ := cl3 hcl
    have hT := E.loc (names := [Str.ofString "is_filled", Str.ofString "height", Str.ofString "last", Str.ofString "rows", Str.ofString "used", Str.ofString "place", Str.ofString "number", Str.ofString "colours"]) rfl rfl
    have hG := E.glob (names := [Str.ofString "min", Str.ofString "SIXEL_BAND", Str.ofString "max", Str.ofString "SIXEL_NO_POINT", Str.ofString "range", Str.ofString "dict", Str.ofString "first_sixel_colour", Str.ofString "Raster"]) rfl rfl
    have hC := E.cel rfl rfl (show [Str.ofString "ground", Str.ofString "width", Str.ofString "self"].Nodup by decide)
    have hI := E.inter rfl
    show WF C _ (ns env.locals [Str.ofString "is_filled", Str.ofString "height", Str.ofString "last", Str.ofString "rows", Str.ofString "used", Str.ofString "place", Str.ofString "number", Str.ofString "colours"] [some (.bool fl), none, none, none, none, none, none, none] :: cel cg none :: cel cw none :: cel cs (some (.ref a)) :: rdr C most a d dp dc ln S l) _ _
    refine ex_expr ?_ (by assumption)
    refine Wr.hide fun Ψ1 hΨ1 => ?_
    refine ev_meth0 (g := 98) ?_ rfl rfl
    refine ev_cel (by assumption) (.tail _ (.tail _ (.head _))) (.tail _ (.tail _ (.tail _ (.head _)))) ?_
    refine ⟨_, 118, _, _, _, rfl, hK, .tail _ (.tail _ (.tail _ (.tail _ (.head _)))), .tail _ (.tail _ (.tail _ (.tail _ (.tail _ (.head _))))), rfl, by decide, ?_⟩
    refine .gives (.pick (.tail (.tail (.tail (.tail .head)))) (.pick (.tail (.tail (.tail (.tail .head)))) (.pick (.tail (.tail (.tail (.tail .head)))) (.pick (.tail (.tail (.tail (.tail .head)))) (.pick (.tail (.tail (.tail (.tail .head)))) .rfl))))) ?_
    refine end_spec (n := n + 1) r' O ?_
    refine Imp.use hΨ1 ?_
    refine ⟨rfl, ?_⟩
    generalize endI most S = T at *
    refine .gives (.pick (.tail (.tail (.tail (.tail (.tail .head))))) (.pick (.tail (.tail (.tail (.tail (.tail .head))))) (.pick (.tail (.tail (.tail (.tail (.tail .head))))) (.pick (.tail (.tail (.tail (.tail (.tail .head))))) .rfl)))) ?_
    refine ex_assign ?_
    refine Wr.hide fun Ψ2 hΨ2 => ?_
    refine ev_callB (ev_glob (by assumption) (.head _) (gv_min _) ⟨_, rfl, ?_⟩)
    refine ar_cons ?_
    refine Wr.hide fun Ψ3 hΨ3 => ?_
    refine ev_bin ?_
    refine ev_attr ?_
    refine ev_cel (by assumption) (.tail _ (.tail _ (.head _))) (.tail _ (.tail _ (.tail _ (.head _)))) ?_
    refine ga_inst (by assumption) (.tail _ (.tail _ (.tail _ (.tail _ (.head _))))) (.tail _ (.tail _ (.tail _ (.tail _ (.tail _ (.head _)))))) ((.tail (.tail (.tail (.tail (.tail (.tail (.tail (.tail (.tail .head)))))))))) rfl ?_
    refine ev_glob (by assumption) (.tail _ (.head _)) (gv_BAND _) ?_
    refine o2_mul (mulOk (by omega) (by omega)) ?_
    refine Imp.use hΨ3 ?_
    refine ar_cons ?_
    refine ev_attr ?_
    refine ev_cel (by assumption) (.tail _ (.tail _ (.head _))) (.tail _ (.tail _ (.tail _ (.head _)))) ?_
    refine ga_inst (by assumption) (.tail _ (.tail _ (.tail _ (.tail _ (.head _))))) (.tail _ (.tail _ (.tail _ (.tail _ (.tail _ (.head _)))))) (.head) rfl ?_
    refine ar_nil ?_
    refine b_min (by assumption) ?_
    refine Imp.use hΨ2 ?_
    refine st_loc (by assumption) (.head) ((.tail .head)) ?_
    refine ex_assign ?_
    refine ev_attr ?_
    refine ev_cel (by assumption) (.tail _ (.tail _ (.head _))) (.tail _ (.tail _ (.tail _ (.head _)))) ?_
    refine ga_inst (by assumption) (.tail _ (.tail _ (.tail _ (.tail _ (.head _))))) (.tail _ (.tail _ (.tail _ (.tail _ (.tail _ (.head _)))))) ((.tail (.tail (.tail (.tail (.tail (.tail (.tail (.tail .head))))))))) rfl ?_
    refine st_cel (by assumption) (.tail _ (.head _)) ((.tail (.tail .head))) ?_
    refine ex_ifP (fun l' => ∃ vl, l' = ns env.locals [Str.ofString "is_filled", Str.ofString "height", Str.ofString "last", Str.ofString "rows", Str.ofString "used", Str.ofString "place", Str.ofString "number", Str.ofString "colours"] [some (.bool fl), some (.int (shapeI T.told T.width T.bands most lp).2), vl, none, none, none, none, none] ::
      cel cg none :: cel cw (some (.int (shapeI T.told T.width T.bands most lp).1)) :: cel cs (some (.ref a)) :: rdr C most a d dp dc ln T l) ?_ ?_
    · refine Wr.hide fun Ψ4 hΨ4 => ?_
      refine tr_cmp ?_
      refine ev_attr ?_
      refine ev_cel (by assumption) (.tail _ (.tail _ (.head _))) (.tail _ (.tail _ (.tail _ (.head _)))) ?_
      refine ga_inst (by assumption) (.tail _ (.tail _ (.tail _ (.tail _ (.head _))))) (.tail _ (.tail _ (.tail _ (.tail _ (.tail _ (.head _)))))) (.tail (.tail (.tail (.tail .head)))) rfl ?_ hands_told
      refine ev_none ?_
      refine c2_isnot_none ?_
      refine ⟨_, .bool _, ?_⟩
      refine Imp.use hΨ4 ?_
      refine ⟨fun hc => ?_, fun hc => ?_⟩
      · have hd : T.told ≠ none := fun q => by rw [q] at hc; cases hc
        obtain ⟨tt, ht⟩ := Option.ne_none_iff_exists'.mp hd
        obtain ⟨tw, th⟩ := tt
        have eT : toldA T.told = .tup [.int tw, .int th] := by rw [ht]; rfl
        have eS : shapeI T.told T.width T.bands most lp = (max T.width tw, max (lastOf lp) th) := by rw [ht]; rfl
        rw [eS]
        refine ex_assign ?_
        refine Wr.mono (Φ := fun v l' => v = .int (lastOf lp) ∧ Gives l' (ns env.locals [Str.ofString "is_filled", Str.ofString "height", Str.ofString "last", Str.ofString "rows", Str.ofString "used", Str.ofString "place", Str.ofString "number", Str.ofString "colours"] [some (.bool fl), some (.int (min (T.bands * 6) most)), none, none, none, none, none, none] :: cel cg none :: cel cw (some (.int T.width)) :: cel cs (some (.ref a)) :: rdr C most a d dp dc ln T l)) (ev_if ?_) ?_
        · refine Wr.hide fun Ψ5 hΨ5 => ?_
          refine tr_cmp ?_
          refine ev_attr ?_
          refine ev_cel (by assumption) (.tail _ (.tail _ (.head _))) (.tail _ (.tail _ (.tail _ (.head _)))) ?_
          refine ga_inst (by assumption) (.tail _ (.tail _ (.tail _ (.tail _ (.head _))))) (.tail _ (.tail _ (.tail _ (.tail _ (.tail _ (.head _)))))) ((.tail .head)) rfl ?_
          refine ev_dict0 (intKind prg C.w) fun e0 => ?_
          refine c2_dict_ne_nil r' (.tail _ (.tail _ (.tail _ (.tail _ (.tail _ (.tail _ (.tail _ (.head _)))))))) (.head _) ?_
          refine ⟨_, .bool _, ?_⟩
          refine Imp.use hΨ5 ?_
          refine dec_split (fun hc => ?_) (fun hc => ?_)
          · have hne : lp ≠ [] := fun q => hc (by rw [G.pts, q]; rfl)
            refine Wr.hide fun Ψ6 hΨ6 => ?_
            refine ev_bin ?_
            refine ev_bin ?_
            refine Wr.hide fun Ψ7 hΨ7 => ?_
            refine ev_callB (ev_glob (by assumption) (.tail _ (.tail _ (.head _))) (gv_max _) ⟨_, rfl, ?_⟩)
            refine ar_cons ?_
            refine ev_attr ?_
            refine ev_cel (by assumption) (.tail _ (.tail _ (.head _))) (.tail _ (.tail _ (.tail _ (.tail _ (.head _))))) ?_
            refine ga_inst (by assumption) (.tail _ (.tail _ (.tail _ (.tail _ (.tail _ (.head _)))))) (.tail _ (.tail _ (.tail _ (.tail _ (.tail _ (.tail _ (.head _))))))) ((.tail .head)) rfl ?_
            refine ar_nil ?_
            refine b_max_dict r' (.tail _ (.tail _ (.tail _ (.tail _ (.tail _ (.tail _ (.tail _ (.head _)))))))) hc fun m hm1 hm2 => ?_
            refine Imp.use hΨ7 ?_
            refine ev_attr ?_
            refine ev_cel (by assumption) (.tail _ (.tail _ (.head _))) (.tail _ (.tail _ (.tail _ (.tail _ (.head _))))) ?_
            refine ga_inst (by assumption) (.tail _ (.tail _ (.tail _ (.tail _ (.tail _ (.head _)))))) (.tail _ (.tail _ (.tail _ (.tail _ (.tail _ (.tail _ (.head _))))))) (.head) rfl ?_
            have m1 := G.m1
            obtain ⟨k1, k2, k3⟩ := geo_last G hm1 hm2
            have m2 := G.m2
            refine o2_div (by omega) (by omega) (by omega) ?_
            refine ev_int ?_
            refine o2_add ?_
            refine Imp.use hΨ6 ?_
            refine ⟨congrArg AV.int k1, ?_⟩
            exact (.pick (.tail .head) (.pick (.tail .head) (.pick (.tail .head) (.pick (.tail .head) (.pick (.tail .head) (.pick (.tail .head) (.pick (.tail .head) (.pick (.tail .head) (.pick (.tail .head) (.tails .rfl))))))))))
          · have hne : lp = [] := by
              have e : ptsA T.pts = [] := by simpa using hc
              rw [G.pts] at e
              unfold ptsA ptsOf at e
              rw [List.map_map] at e
              exact List.map_eq_nil_iff.mp e
            refine ev_int ?_
            rw [hne]
            refine ⟨rfl, ?_⟩
            exact (.pick (.tail .head) (.pick (.tail .head) (.pick (.tail .head) (.pick (.tail .head) (.pick (.tail .head) (.pick (.tail .head) (.pick (.tail .head) (.pick (.tail .head) (.pick (.tail .head) (.tails .rfl))))))))))
        · rintro v l' ⟨rfl, g⟩
          refine .gives g ?_
          refine st_loc (by assumption) (.head) ((.tail (.tail .head))) ?_
          refine Wr.hide fun Ψ5 hΨ5 => ?_
          refine ex_tup ?_ ?_
          rotate_left
          · obtain ⟨e1, e2, e3, e4⟩ := E
            obtain ⟨sc, L, G, B, Ce, Co, Fr⟩ := env
            dsimp only at e1
            subst e1
            rfl
          refine ev_tup ?_
          refine ar_cons ?_
          refine Wr.hide fun Ψ6 hΨ6 => ?_
          refine ev_callB (ev_glob (by assumption) (.tail _ (.tail _ (.head _))) (gv_max _) ⟨_, rfl, ?_⟩)
          refine ar_cons ?_
          refine ev_cel (by assumption) (.tail _ (.head _)) (.tail _ (.tail _ (.head _))) ?_
          refine ar_cons ?_
          refine Wr.hide fun Ψ7 hΨ7 => ?_
          refine ev_sub ?_
          refine ev_attr ?_
          refine ev_cel (by assumption) (.tail _ (.tail _ (.head _))) (.tail _ (.tail _ (.tail _ (.head _)))) ?_
          refine ga_inst (by assumption) (.tail _ (.tail _ (.tail _ (.tail _ (.head _))))) (.tail _ (.tail _ (.tail _ (.tail _ (.tail _ (.head _)))))) (.tail (.tail (.tail (.tail .head)))) rfl ?_ hands_told
          rw [eT]
          refine ev_int ?_
          refine gi_tup (.pos (by decide) rfl) (Nat.le_of_ble_eq_true rfl) ?_
          refine Imp.use hΨ7 ?_
          refine ar_nil ?_
          refine b_max (by assumption) ?_
          refine Imp.use hΨ6 ?_
          refine ar_cons ?_
          refine Wr.hide fun Ψ8 hΨ8 => ?_
          refine ev_callB (ev_glob (by assumption) (.tail _ (.tail _ (.head _))) (gv_max _) ⟨_, rfl, ?_⟩)
          refine ar_cons ?_
          refine ev_loc (by assumption) (.head _) (.tail (.tail .head)) ?_
          refine ar_cons ?_
          refine Wr.hide fun Ψ9 hΨ9 => ?_
          refine ev_sub ?_
          refine ev_attr ?_
          refine ev_cel (by assumption) (.tail _ (.tail _ (.head _))) (.tail _ (.tail _ (.tail _ (.head _)))) ?_
          refine ga_inst (by assumption) (.tail _ (.tail _ (.tail _ (.tail _ (.head _))))) (.tail _ (.tail _ (.tail _ (.tail _ (.tail _ (.head _)))))) (.tail (.tail (.tail (.tail .head)))) rfl ?_ hands_told
          rw [eT]
          refine ev_int ?_
          refine gi_tup (.pos (by decide) rfl) (Nat.le_of_ble_eq_true rfl) ?_
          refine Imp.use hΨ9 ?_
          refine ar_nil ?_
          refine b_max (by assumption) ?_
          refine Imp.use hΨ8 ?_
          refine ar_nil ?_
          refine ⟨Nat.le_of_ble_eq_true rfl, ?_⟩
          refine as_tup (by assumption) ?_
          refine in_cons ?_
          refine as_name ?_
          refine st_cel (by assumption) (.tail _ (.head _)) ((.tail (.tail .head))) ?_
          refine in_cons ?_
          refine as_name ?_
          refine st_loc (by assumption) (.head) ((.tail .head)) ?_
          refine in_nil ?_
          refine ex_nil ?_
          refine Imp.use hΨ5 ?_
          exact ⟨rfl, _, rfl⟩
      · refine ex_nil ?_
        have hd : T.told = none := told_none.mp (by cases hq : isNoneA (toldA T.told) with | true => rfl | false => rw [hq] at hc; cases hc)
        refine ⟨rfl, none, ?_⟩
        rw [hd]; rfl
    · rintro l' ⟨vl, rfl⟩
      generalize hsh : shapeI T.told T.width T.bands most lp = sh at *
      have hwh := geo_shape G
      rw [hsh] at hwh
      obtain ⟨w, ht⟩ := sh
      dsimp only at *
      refine ex_assign ?_
      refine Wr.mono (Φ := fun v l' => v = .int (if fl then 0 else -1) ∧ l' = ns env.locals [Str.ofString "is_filled", Str.ofString "height", Str.ofString "last", Str.ofString "rows", Str.ofString "used", Str.ofString "place", Str.ofString "number", Str.ofString "colours"] [some (.bool fl), some (.int ht), vl, none, none, none, none, none] :: cel cg none :: cel cw (some (.int w)) :: cel cs (some (.ref a)) :: rdr C most a d dp dc ln T l) (ev_if ?_) ?_
      · refine Wr.hide fun Ψ4 hΨ4 => ?_
        refine tr_val ?_
        refine ev_loc (by assumption) (.head _) .head ?_
        refine ⟨_, .bool _, ?_⟩
        refine Imp.use hΨ4 ?_
        refine ⟨fun hc => ?_, fun hc => ?_⟩
        · refine ev_int ?_
          rw [if_pos hc]
          exact ⟨rfl, rfl⟩
        · refine ev_glob (by assumption) (.tail _ (.tail _ (.tail _ (.head _)))) (gv_NO_POINT _) ?_
          rw [if_neg (by rw [hc]; decide)]
          exact ⟨rfl, rfl⟩
      · rintro v l' ⟨rfl, rfl⟩
        generalize (if fl = true then (0 : Int) else -1) = gr at *
        refine st_cel (by assumption) (.head _) ((.tail .head)) ?_
        refine ex_assign_comp (cl' := [(Str.ofString "width", cw), (Str.ofString "ground", cg)]) (names := [Str.ofString "row"]) r' E rfl (by decide) rfl (by decide) (by decide) ?_ ?_
        rotate_left
        · obtain ⟨e1, e2, e3, e4⟩ := E
          obtain ⟨sc, L, G, B, Ce, Co, Fr⟩ := env
          dsimp only at e1
          subst e1
          rfl
        refine Wr.hide fun Ψ4 hΨ4 => ?_
        refine ev_callT (ev_glob (by assumption) (.tail _ (.tail _ (.tail _ (.tail _ (.head _))))) (gv_range _) ⟨_, rfl, ?_⟩)
        refine ar_cons ?_
        refine ev_loc (by assumption) (.head _) (.tail .head) ?_
        refine ar_nil ?_
        refine b_range1 fun rr => ?_
        refine Imp.use hΨ4 ?_
        obtain ⟨r0, hr0⟩ : ∃ q, q = rr := ⟨_, rfl⟩
        subst hr0
        have hwb := hwh.1
        have hhb := hwh.2
        have hR1 : RB 0 ht := .of0 (by omega) (by omega)
        refine ⟨_, _, fun i ys l' => ∃ bs : List Addr, bs.length = i ∧ ys = bs.map .ref ∧ l' = grid bs (List.replicate i (List.replicate w.toNat gr)) ++ (rng r0 0 ht :: ns env.locals [Str.ofString "is_filled", Str.ofString "height", Str.ofString "last", Str.ofString "rows", Str.ofString "used", Str.ofString "place", Str.ofString "number", Str.ofString "colours"] [some (.bool fl), some (.int ht), vl, none, none, none, none, none] :: cel cg (some (.int gr)) :: cel cw (some (.int w)) :: cel cs (some (.ref a)) :: rdr C most a d dp dc ln T l), .rng (.head _) hR1, ?_, ⟨[], rfl, rfl, rfl⟩, fun cenv Ec i y ys l' hy hI => ?_, fun ys l' hI hl => ?_⟩
        · rw [range_len]; omega
        · obtain ⟨bs, hbs, rfl, rfl⟩ := hI
          obtain ⟨hi, rfl⟩ := range_at hy
          refine ⟨.rng (List.mem_append_right _ (.head _)) hR1, ?_⟩
          have hT := Ec.loc (names := [Str.ofString "row"]) rfl rfl
          have hG := Ec.glob (names := [Str.ofString "range"]) rfl rfl
          have hC := Ec.cel rfl rfl (show [Str.ofString "width", Str.ofString "ground"].Nodup by decide)
          show W1 C _ isEq (ns cenv.locals [Str.ofString "row"] [none] :: _) _ _ _
          refine as_name ?_
          refine st_loc (by assumption) (.head) (.head) ?_
          refine Wr.hide fun Ψ5 hΨ5 => ?_
          refine ev_map (γ := Int) [(Str.ofString "ground", cg)] [Str.ofString "column"] r' Ec rfl (by decide) rfl (by decide) (by decide) ?_
          refine Wr.hide fun Ψ6 hΨ6 => ?_
          refine ev_callT (ev_glob (by assumption) (.head _) (gv_range _) ⟨_, rfl, ?_⟩)
          refine ar_cons ?_
          refine ev_cel (by assumption) (.head _) (.tail _ (List.mem_append_right _ (.tail _ (.tail _ (.tail _ (.head _)))))) ?_
          refine ar_nil ?_
          refine b_range1 fun rr => ?_
          refine Imp.use hΨ6 ?_
          refine ⟨_, rangeInts 0 1 (w - 0).toNat, .int, fun _ => .int gr, .rng (.head _) (.of0 (by omega) (by omega)), by rw [rangeInts_length]; omega, fun cenv2 Ed z hz => ?_, fun a3 => ?_⟩
          · have hT := Ed.loc (names := [Str.ofString "column"]) rfl rfl
            have hC := Ed.cel rfl rfl (show [Str.ofString "ground"].Nodup by decide)
            show W1 C _ isEq (ns cenv2.locals [Str.ofString "column"] [none] :: _) _ _ _
            refine as_name ?_
            refine st_loc (by assumption) (.head) (.head) ?_
            refine ev_cel (by assumption) (.head _) (.tail _ (.tail _ (.tail _ (List.mem_append_right _ (.tail _ (.tail _ (.head _))))))) ?_
            exact ⟨rfl, _, .rfl⟩
          · refine Imp.use hΨ5 ?_
            refine ⟨[some (.int (0 + (i : Int)))], grid (bs ++ [a3]) (List.replicate (i + 1) (List.replicate w.toNat gr)) ++ (rng r0 0 ht :: ns env.locals [Str.ofString "is_filled", Str.ofString "height", Str.ofString "last", Str.ofString "rows", Str.ofString "used", Str.ofString "place", Str.ofString "number", Str.ofString "colours"] [some (.bool fl), some (.int ht), vl, none, none, none, none, none] :: cel cg (some (.int gr)) :: cel cw (some (.int w)) :: cel cs (some (.ref a)) :: rdr C most a d dp dc ln T l), ?_, bs ++ [a3], ?_, ?_, rfl⟩
            · rw [List.replicate_succ']
              have e : (rangeInts 0 1 (w - 0).toNat).map (fun _ => AV.int gr) = (List.replicate w.toNat gr).map .int := by
                rw [List.map_const', List.map_replicate, rangeInts_length, show (w - 0).toNat = w.toNat by omega]
              rw [e]
              exact .pick (.tail (.tail .head)) (.trans (.pick .head (.tails .rfl)) (grid_new (by rw [List.length_replicate]; exact hbs)))
            · rw [List.length_append, hbs]; rfl
            · rw [List.map_append]; rfl
        · obtain ⟨bs, hbs, rfl, rfl⟩ := hI
          refine ⟨.rng (List.mem_append_right _ (.head _)) hR1, fun a2 => ?_⟩
          rw [range_len] at hbs ⊢
          rw [show (ht - 0).toNat = ht.toNat by omega] at hbs ⊢
          refine W1.gives (l' := ns env.locals [Str.ofString "is_filled", Str.ofString "height", Str.ofString "last", Str.ofString "rows", Str.ofString "used", Str.ofString "place", Str.ofString "number", Str.ofString "colours"] [some (.bool fl), some (.int ht), vl, none, none, none, none, none] :: cel cg (some (.int gr)) :: cel cw (some (.int w)) :: cel cs (some (.ref a)) :: ins a 118 d :: att d RN (RV most T dp dc ln) :: dicI C dp (ptsA T.pts) :: dicI C dc (colsA T.cols) :: lst ln (T.nums.map .int) :: lst a2 (bs.map .ref) :: (grid bs (List.replicate ht.toNat (List.replicate w.toNat gr)) ++ l)) ?_ ?_
          · exact Gives.house (p := [_, _, _, _, _, _, _, _, _])
          rw [← gridOf_nil]
          refine st_loc (by assumption) (.head) ((.tail (.tail (.tail .head)))) ?_
          refine ex_assign ?_
          refine Wr.mono (Φ := fun v l' => ∃ u, v = .ref u ∧ Gives l' (dicI C u ((if fl = true ∧ 0 < w ∧ 0 < ht then [0] else []).map fun k => (k, AV.bool true)) :: ns env.locals [Str.ofString "is_filled", Str.ofString "height", Str.ofString "last", Str.ofString "rows", Str.ofString "used", Str.ofString "place", Str.ofString "number", Str.ofString "colours"] [some (.bool fl), some (.int ht), vl, some (.ref a2), none, none, none, none] :: cel cg (some (.int gr)) :: cel cw (some (.int w)) :: cel cs (some (.ref a)) :: ins a 118 d :: att d RN (RV most T dp dc ln) :: dicI C dp (ptsA T.pts) :: dicI C dc (colsA T.cols) :: lst ln (T.nums.map .int) :: lst a2 (bs.map .ref) :: (grid bs (gridOf [] gr ht.toNat w.toNat) ++ l))) (ev_if ?_) ?_
          · refine tr_is (p := fl = true ∧ 0 < w ∧ 0 < ht) ?_ ?_
            · refine Wr.hide fun Ψ5 hΨ5 => ?_
              refine tr_and ?_
              refine tr_val ?_
              refine ev_loc (by assumption) (.head _) .head ?_
              refine ⟨_, .bool _, ?_⟩
              refine ⟨fun hc => ?_, fun hc => ?_⟩
              · refine tr_and ?_
                refine tr_cmp ?_
                refine ev_cel (by assumption) (.tail _ (.head _)) (.tail _ (.tail _ (.head _))) ?_
                refine ev_int ?_
                refine c2_gt ?_
                refine ⟨_, .bool _, ?_⟩
                refine dec_split (fun hc => ?_) (fun hc => ?_)
                · refine tr_and ?_
                  refine tr_cmp ?_
                  refine ev_loc (by assumption) (.head _) (.tail .head) ?_
                  refine ev_int ?_
                  refine c2_gt ?_
                  refine ⟨_, .bool _, ?_⟩
                  refine dec_split (fun hc => ?_) (fun hc => ?_)
                  · refine tr_and_nil ?_
                    refine Imp.use hΨ5 ?_
                    exact ⟨(decide_eq_true ⟨by assumption, by assumption, by assumption⟩).symm, rfl⟩
                  · refine Imp.use hΨ5 ?_
                    exact ⟨(decide_eq_false fun q => absurd q.2.2 (by assumption)).symm, rfl⟩
                · refine Imp.use hΨ5 ?_
                  exact ⟨(decide_eq_false fun q => absurd q.2.1 (by assumption)).symm, rfl⟩
              · refine Imp.use hΨ5 ?_
                exact ⟨(decide_eq_false fun q => absurd q.1 (by rw [hc]; decide)).symm, rfl⟩
            refine dec_split (fun hU => ?_) (fun hU => ?_)
            · refine ev_dict (intKind prg C.w) (fun u => ?_)
              refine ep_cons ?_
              refine ev_int ?_
              refine ev_stand ?_
              refine ev_bool ?_
              refine ep_nil ?_
              refine ⟨[(0, .bool true)], _, .cons (keyI _) .nil, by simp, .head, u, rfl, ?_⟩
              rw [if_pos hU]
              exact .rfl
            · refine ev_dict0 (intKind prg C.w) fun u => ?_
              rw [if_neg hU]
              exact ⟨u, rfl, .rfl⟩
          · rintro v l' ⟨u, rfl, g⟩
            refine W1.gives g ?_
            refine st_loc (by assumption) ((.tail .head)) ((.tail (.tail (.tail (.tail .head))))) ?_
            refine Wr.nodupKeys (.tail _ (.tail _ (.tail _ (.tail _ (.tail _ (.tail _ (.tail _ (.head _)))))))) fun hnP => ?_
            refine Wr.nodupKeys (.tail _ (.tail _ (.tail _ (.tail _ (.tail _ (.tail _ (.tail _ (.tail _ (.head _))))))))) fun hnC => ?_
            refine Wr.epoch (fun e => .tail (.tail (.tail (.tail (.tail (.tail (.tail .head))))))) fun e => ?_
            refine ex_for r' ?_
            refine ev_attr ?_
            refine ev_cel (by assumption) (.tail _ (.tail _ (.head _))) (.tail _ (.tail _ (.tail _ (.tail _ (.head _))))) ?_
            refine ga_inst (by assumption) (.tail _ (.tail _ (.tail _ (.tail _ (.tail _ (.head _)))))) (.tail _ (.tail _ (.tail _ (.tail _ (.tail _ (.tail _ (.head _))))))) ((.tail .head)) rfl ?_
            refine ⟨_, _, fun i l' => ∃ (vp : Option AV) (ks : List Int), l' = dicI C u (ks.map fun k => (k, AV.bool true)) :: ns env.locals [Str.ofString "is_filled", Str.ofString "height", Str.ofString "last", Str.ofString "rows", Str.ofString "used", Str.ofString "place", Str.ofString "number", Str.ofString "colours"] [some (.bool fl), some (.int ht), vl, some (.ref a2), some (.ref u), vp, none, none] :: cel cg (some (.int gr)) :: cel cw (some (.int w)) :: cel cs (some (.ref a)) :: ins a 118 d :: att d RN (RV most T dp dc ln) :: dicI C dp (ptsA T.pts) (some e) :: dicI C dc (colsA T.cols) :: lst ln (T.nums.map .int) :: lst a2 (bs.map .ref) :: (grid bs (gridOf (lp.take i) gr ht.toNat w.toNat) ++ l) ∧ ks.length ≤ i + 1 ∧ ∀ k, k ∈ ks ↔ (fl = true ∧ 0 < w ∧ 0 < ht ∧ k = 0) ∨ k ∈ (lp.take i).map (·.2),
              .dict (.tail _ (.tail _ (.tail _ (.tail _ (.tail _ (.tail _ (.tail _ (.head _)))))))), ⟨none, _, rfl, ?_, ?_⟩, fun i y l' hy hI => ?_, fun l' hI => ?_⟩
            · split
              · exact Nat.le_refl _
              · exact Nat.zero_le _
            · intro k
              rw [List.take_zero]
              split
              · rename_i q
                rw [List.mem_singleton]
                exact ⟨fun e => .inl ⟨q.1, q.2.1, q.2.2, e⟩, fun e => e.elim (fun e => e.2.2.2) fun e => (nomatch e)⟩
              · rename_i q
                exact ⟨fun e => (nomatch e), fun e => e.elim (fun e => (q ⟨e.1, e.2.1, e.2.2.1⟩).elim) fun e => (nomatch e)⟩
            · obtain ⟨vp, ks, rfl, hk1, hk2⟩ := hI
              refine ⟨.dict (.tail _ (.tail _ (.tail _ (.tail _ (.tail _ (.tail _ (.tail _ (.head _)))))))), ?_⟩
              obtain ⟨hi, r1, c1, v, rfl, hlp, hr, hc, hkey, hdg⟩ := geo_at G hnP hy
              refine as_name ?_
              refine st_loc (by assumption) ((.tail .head)) ((.tail (.tail (.tail (.tail (.tail .head)))))) ?_
              refine Wr.hide fun Ψ5 hΨ5 => ?_
              refine ex_sub ?_
              refine Wr.hide fun Ψ6 hΨ6 => ?_
              refine ev_sub ?_
              refine ev_attr ?_
              refine ev_cel (by assumption) (.tail _ (.tail _ (.head _))) (.tail _ (.tail _ (.tail _ (.tail _ (.head _))))) ?_
              refine ga_inst (by assumption) (.tail _ (.tail _ (.tail _ (.tail _ (.tail _ (.head _)))))) (.tail _ (.tail _ (.tail _ (.tail _ (.tail _ (.tail _ (.head _))))))) ((.tail .head)) rfl ?_
              refine ev_loc (by assumption) (.tail _ (.head _)) (.tail (.tail (.tail (.tail (.tail .head))))) ?_
              refine gi_dict (.tail _ (.tail _ (.tail _ (.tail _ (.tail _ (.tail _ (.tail _ (.head _)))))))) (keyI _) hdg ?_
              refine Imp.use hΨ6 ?_
              refine Wr.hide fun Ψ7 hΨ7 => ?_
              refine ev_sub ?_
              refine ev_loc (by assumption) (.tail _ (.head _)) (.tail (.tail (.tail .head))) ?_
              refine ev_bin ?_
              refine ev_loc (by assumption) (.tail _ (.head _)) (.tail (.tail (.tail (.tail (.tail .head))))) ?_
              refine ev_attr ?_
              refine ev_cel (by assumption) (.tail _ (.tail _ (.head _))) (.tail _ (.tail _ (.tail _ (.tail _ (.head _))))) ?_
              refine ga_inst (by assumption) (.tail _ (.tail _ (.tail _ (.tail _ (.tail _ (.head _)))))) (.tail _ (.tail _ (.tail _ (.tail _ (.tail _ (.tail _ (.head _))))))) (.head) rfl ?_
              have w1 := G.w1
              have m2 := G.m2
              have m1 := G.m1
              have hkp := key_pos (most := most) (r := r1) (c := c1) (by omega) (by omega) (by omega) (by omega) m2
              refine o2_div (by omega) (by omega) (by omega) ?_
              rw [hkey.1]
              have hrh : (r1 : Int) < ht := hhb.2.2 _ (List.mem_of_getElem? hlp)
              have hb1 : r1 < bs.length := by omega
              obtain ⟨b, hb⟩ : ∃ b, bs[r1]? = some b := ⟨_, List.getElem?_eq_getElem hb1⟩
              have hm : (gridOf (lp.take i) gr ht.toNat w.toNat)[r1]? = some (rowOf (lp.take i) gr w.toNat r1) := by
                unfold gridOf; rw [List.getElem?_map, List.getElem?_range (by omega)]; rfl
              refine gi_list (.tail _ (.tail _ (.tail _ (.tail _ (.tail _ (.tail _ (.tail _ (.tail _ (.tail _ (.tail _ (.head _))))))))))) (.pos (x := .ref b) (by omega) (by rw [Int.toNat_natCast, List.getElem?_map, hb]; rfl)) (by rw [List.length_map]; omega) ?_
              refine Imp.use hΨ7 ?_
              refine Wr.hide fun Ψ8 hΨ8 => ?_
              refine ev_bin ?_
              refine ev_loc (by assumption) (.tail _ (.head _)) (.tail (.tail (.tail (.tail (.tail .head))))) ?_
              refine ev_attr ?_
              refine ev_cel (by assumption) (.tail _ (.tail _ (.head _))) (.tail _ (.tail _ (.tail _ (.tail _ (.head _))))) ?_
              refine ga_inst (by assumption) (.tail _ (.tail _ (.tail _ (.tail _ (.tail _ (.head _)))))) (.tail _ (.tail _ (.tail _ (.tail _ (.tail _ (.tail _ (.head _))))))) (.head) rfl ?_
              refine o2_mod (by omega) ?_
              refine Imp.use hΨ8 ?_
              rw [hkey.2]
              have hrow : (rowOf (lp.take i) gr w.toNat r1).length = w.toNat := by unfold rowOf; rw [List.length_map, List.length_range]
              refine si_list (.tail (.tail (.tail (.tail (.tail (.tail (.tail (.tail (.tail (.tail (.tail (grid_upd (x := (rowOf (lp.take i) gr w.toNat r1).set c1 v) hb hm)))))))))))) (List.map_set ..) (j := c1) ?_ (by rw [List.length_map, hrow]; omega) (by omega) ?_
              · rw [List.length_map, hrow]
                have := seqIndex_of (k := (c1 : Int)) (n := w.toNat) (by omega) (by omega)
                rwa [Int.toNat_natCast] at this
              have hlt : lp.take (i + 1) = lp.take i ++ [(((r1 : Int), (c1 : Int)), v)] := by rw [List.take_add_one, hlp]; rfl
              rw [← grid_step (geo_new G hlp), ← hlt]
              refine ex_sub ?_
              refine ev_bool ?_
              refine ev_loc (by assumption) (.tail _ (.head _)) (.tail (.tail (.tail (.tail .head)))) ?_
              refine Wr.hide fun Ψ9 hΨ9 => ?_
              refine ev_sub ?_
              refine ev_attr ?_
              refine ev_cel (by assumption) (.tail _ (.tail _ (.head _))) (.tail _ (.tail _ (.tail _ (.tail _ (.head _))))) ?_
              refine ga_inst (by assumption) (.tail _ (.tail _ (.tail _ (.tail _ (.tail _ (.head _)))))) (.tail _ (.tail _ (.tail _ (.tail _ (.tail _ (.tail _ (.head _))))))) ((.tail .head)) rfl ?_
              refine ev_loc (by assumption) (.tail _ (.head _)) (.tail (.tail (.tail (.tail (.tail .head))))) ?_
              refine gi_dict (.tail _ (.tail _ (.tail _ (.tail _ (.tail _ (.tail _ (.tail _ (.head _)))))))) (keyI _) hdg ?_
              refine Imp.use hΨ9 ?_
              refine si_dict .head (keyI _) (by rw [List.length_map]; have := G.ln; omega) ?_
              rw [used_put]
              refine ex_nil ?_
              refine Imp.use hΨ5 ?_
              refine .inl ⟨rfl, _, _, rfl, ?_, fun k => ?_⟩
              · split
                · omega
                · rw [List.length_append]; exact Nat.succ_le_succ hk1
              · rw [hlt, List.map_append, List.mem_append]
                split
                · rename_i q
                  rw [hk2]
                  refine ⟨fun e => e.elim .inl fun e => .inr (.inl e), fun e => e.elim .inl fun e => e.elim .inr fun e => ?_⟩
                  have e : k = v := by simpa using e
                  rw [e]; exact (hk2 v).mp q
                · rw [List.mem_append, hk2, or_assoc]
                  simp
            · obtain ⟨vp, ks, rfl, hk1, hk2⟩ := hI
              refine ⟨.dict (.tail _ (.tail _ (.tail _ (.tail _ (.tail _ (.tail _ (.tail _ (.head _)))))))), ?_⟩
              have e1 : ((ptsA T.pts).map fun p => AV.int p.1).length = lp.length := by rw [G.pts]; unfold ptsA ptsOf; rw [List.length_map, List.length_map, List.length_map]
              rw [e1] at hk1 hk2 ⊢
              rw [List.take_length] at hk2 ⊢
              refine Wr.epoch (fun e2 => .tail (.tail (.tail (.tail (.tail (.tail (.tail (.tail .head)))))))) fun e2 => ?_
              refine ex_assign ?_
              refine Wr.hide fun Ψ5 hΨ5 => ?_
              refine ev_callT (ev_glob (by assumption) (.tail _ (.tail _ (.tail _ (.tail _ (.tail _ (.head _)))))) (gv_dict _) ⟨_, rfl, ?_⟩)
              refine ar_cons ?_
              refine Wr.hide fun Ψ6 hΨ6 => ?_
              refine ev_map (γ := Int × AV) [(Str.ofString "self", cs)] [Str.ofString "number"] r' E rfl (by decide) rfl (by decide) (by decide) ?_
              refine ev_attr ?_
              refine ev_cel (by assumption) (.tail _ (.tail _ (.head _))) (.tail _ (.tail _ (.tail _ (.tail _ (.head _))))) ?_
              refine ga_inst (by assumption) (.tail _ (.tail _ (.tail _ (.tail _ (.tail _ (.head _)))))) (.tail _ (.tail _ (.tail _ (.tail _ (.tail _ (.tail _ (.head _))))))) ((.tail (.tail .head))) rfl ?_
              have hcl : (colsA T.cols).length ≤ 1000 := by unfold colsA; rw [List.length_map]; exact G.cl
              refine ⟨_, colsA T.cols, fun p => .int p.1, fun p => .tup [.int p.1, p.2], .dict (.tail _ (.tail _ (.tail _ (.tail _ (.tail _ (.tail _ (.tail _ (.tail _ (.head _))))))))), by omega, fun cenv Ec z hz => ?_, fun a3 => ?_⟩
              · have hT := Ec.loc (names := [Str.ofString "number"]) rfl rfl
                have hC := Ec.cel rfl rfl (show [Str.ofString "self"].Nodup by decide)
                show W1 C _ isEq (ns cenv.locals [Str.ofString "number"] [none] :: _) _ _ _
                refine as_name ?_
                refine st_loc (by assumption) (.head) (.head) ?_
                refine Wr.hide fun Ψ7 hΨ7 => ?_
                refine ev_tup ?_
                refine ar_cons ?_
                refine ev_loc (by assumption) (.head _) .head ?_
                refine ar_cons ?_
                refine Wr.hide fun Ψ8 hΨ8 => ?_
                refine ev_sub ?_
                refine ev_attr ?_
                refine ev_cel (by assumption) (.head _) (.tail _ (.tail _ (.tail _ (.tail _ (.tail _ (.head _)))))) ?_
                refine ga_inst (by assumption) (.tail _ (.tail _ (.tail _ (.tail _ (.tail _ (.tail _ (.head _))))))) (.tail _ (.tail _ (.tail _ (.tail _ (.tail _ (.tail _ (.tail _ (.head _)))))))) ((.tail (.tail .head))) rfl ?_
                refine ev_loc (by assumption) (.head _) .head ?_
                refine gi_dict (.tail _ (.tail _ (.tail _ (.tail _ (.tail _ (.tail _ (.tail _ (.tail _ (.tail _ (.head _)))))))))) (keyI _) (dget_mem hnC hz) ?_
                refine Imp.use hΨ8 ?_
                refine ar_nil ?_
                refine ⟨Nat.le_of_ble_eq_true rfl, ?_⟩
                refine Imp.use hΨ7 ?_
                exact ⟨rfl, _, .rfl⟩
              · refine Imp.use hΨ6 ?_
                refine ar_nil ?_
                refine t_dict_pairs r' (.head _) hnC (by omega) fun b => ?_
                refine Imp.use hΨ5 ?_
                refine W1.gives (l' := dicI C b (colsA T.cols) :: dicI C u (ks.map fun k => (k, AV.bool true)) :: ns env.locals [Str.ofString "is_filled", Str.ofString "height", Str.ofString "last", Str.ofString "rows", Str.ofString "used", Str.ofString "place", Str.ofString "number", Str.ofString "colours"] [some (.bool fl), some (.int ht), vl, some (.ref a2), some (.ref u), vp, none, none] :: cel cg (some (.int gr)) :: cel cw (some (.int w)) :: cel cs (some (.ref a)) :: ins a 118 d :: att d RN (RV most T dp dc ln) :: lst a2 (bs.map .ref) :: (grid bs (gridOf lp gr ht.toNat w.toNat) ++ l)) ?_ ?_
                · exact (.pick .head (.pick (.tail .head) (.pick (.tail .head) (.pick (.tail .head) (.pick (.tail .head) (.pick (.tail .head) (.pick (.tail .head) (.pick (.tail .head) (.pick (.tail (.tail (.tail (.tail .head)))) (.tails (.tails (.tails (.tails .rfl)))))))))))))
                refine st_loc (by assumption) ((.tail (.tail .head))) ((.tail (.tail (.tail (.tail (.tail (.tail (.tail .head)))))))) ?_
                refine Wr.epoch (fun e3 => .tail .head) fun e3 => ?_
                refine ex_for r' ?_
                refine ev_loc (by assumption) (.tail _ (.tail _ (.head _))) (.tail (.tail (.tail (.tail .head)))) ?_
                refine ⟨_, _, fun j l' => ∃ (vn : Option AV) (cl : List (Int × List Int)), l' = dicI C b (colsA cl) :: dicI C u (ks.map fun k => (k, AV.bool true)) (some e3) :: ns env.locals [Str.ofString "is_filled", Str.ofString "height", Str.ofString "last", Str.ofString "rows", Str.ofString "used", Str.ofString "place", Str.ofString "number", Str.ofString "colours"] [some (.bool fl), some (.int ht), vl, some (.ref a2), some (.ref u), vp, vn, some (.ref b)] :: cel cg (some (.int gr)) :: cel cw (some (.int w)) :: cel cs (some (.ref a)) :: ins a 118 d :: att d RN (RV most T dp dc ln) :: lst a2 (bs.map .ref) :: (grid bs (gridOf lp gr ht.toNat w.toNat) ++ l) ∧
                    (cl.map (·.1)).Nodup ∧ cl.length ≤ T.cols.length + j ∧ ∀ k, dget cl k = colAt T.cols (fun k => decide (k ∈ ks.take j)) k,
                  .dict (.tail _ (.head _)), ⟨none, T.cols, rfl, ?_, Nat.le_refl _, fun k => ?_⟩, fun j y l' hy hI => ?_, fun l' hI => ?_⟩
                · unfold colsA at hnC; rw [List.map_map] at hnC; exact hnC
                · unfold colAt
                  split
                  · assumption
                  · simpa using (by assumption)
                · obtain ⟨vn, cl, rfl, c1, c2, c3⟩ := hI
                  refine ⟨.dict (.tail _ (.head _)), ?_⟩
                  have hks : ∃ k, ks[j]? = some k ∧ y = .int k := by
                    rw [List.getElem?_map, List.getElem?_map] at hy
                    cases hq : ks[j]? with
                    | none => rw [hq] at hy; cases hy
                    | some k => rw [hq] at hy; exact ⟨k, rfl, (Option.some.inj hy).symm⟩
                  obtain ⟨k, hkj, rfl⟩ := hks
                  have hlt : ks.take (j + 1) = ks.take j ++ [k] := by rw [List.take_add_one, hkj]; rfl
                  refine as_name ?_
                  refine st_loc (by assumption) ((.tail (.tail .head))) ((.tail (.tail (.tail (.tail (.tail (.tail .head))))))) ?_
                  refine Wr.hide fun Ψ7 hΨ7 => ?_
                  refine ex_if ?_
                  refine Wr.hide fun Ψ8 hΨ8 => ?_
                  refine tr_cmp ?_
                  refine ev_loc (by assumption) (.tail _ (.tail _ (.head _))) (.tail (.tail (.tail (.tail (.tail (.tail .head)))))) ?_
                  refine ev_loc (by assumption) (.tail _ (.tail _ (.head _))) (.tail (.tail (.tail (.tail (.tail (.tail (.tail .head))))))) ?_
                  refine c2_notin_dict (.head _) (keyI k) ?_
                  refine ⟨_, .bool _, ?_⟩
                  refine Imp.use hΨ8 ?_
                  refine ⟨fun hc => ?_, fun hc => ?_⟩
                  · have hnone : dget cl k = none := by
                      have e : dget (colsA cl) k = (dget cl k).map triA := dget_map triA cl k
                      rw [e] at hc
                      cases hq : dget cl k with
                      | none => rfl
                      | some x => rw [hq] at hc; cases hc
                    refine ex_sub ?_
                    refine Wr.hide fun Ψ9 hΨ9 => ?_
                    refine ev_callK (ev_glob (by assumption) (.tail _ (.tail _ (.tail _ (.tail _ (.tail _ (.tail _ (.head _))))))) (gv_first _) ⟨_, rfl, rfl, ?_⟩)
                    refine ar_cons ?_
                    refine ev_loc (by assumption) (.tail _ (.tail _ (.head _))) (.tail (.tail (.tail (.tail (.tail (.tail .head)))))) ?_
                    refine ar_nil ?_
                    refine first_spec (n := n + 7) r' ?_
                    refine Imp.use hΨ9 ?_
                    refine ev_loc (by assumption) (.tail _ (.tail _ (.head _))) (.tail (.tail (.tail (.tail (.tail (.tail (.tail .head))))))) ?_
                    refine ev_loc (by assumption) (.tail _ (.tail _ (.head _))) (.tail (.tail (.tail (.tail (.tail (.tail .head)))))) ?_
                    refine si_dict .head (keyI k) ?_ ?_
                    · have := G.cl
                      have := G.ln
                      have hj : j < ks.length := (List.getElem?_eq_some_iff.mp hkj).1
                      unfold colsA; rw [List.length_map]; omega
                    refine ex_nil ?_
                    refine next_is ?_
                    refine ex_nil ?_
                    refine Imp.use hΨ7 ?_
                    have e2 : dput (colsA cl) k (triA (firstCol k)) = colsA (dput cl k (firstCol k)) := dput_map triA cl k (firstCol k)
                    rw [e2]
                    refine .inl ⟨rfl, _, dput cl k (firstCol k), rfl, dput_nodup c1, Nat.le_trans (dput_length ..) (Nat.succ_le_succ c2), fun q => ?_⟩
                    rw [hlt, colAt_step, dget_dput, ← c3 q]
                    by_cases e : q = k
                    · subst e
                      have ht : dget T.cols q = none := by
                        have := c3 q
                        rw [hnone] at this
                        unfold colAt at this
                        cases hq : dget T.cols q with
                        | none => rfl
                        | some x => rw [hq] at this; cases this
                      rw [if_pos rfl, if_pos ⟨ht, rfl⟩]
                    · rw [if_neg e, if_neg fun q => e q.2]
                  · have hsome : dget cl k ≠ none := by
                      have e : dget (colsA cl) k = (dget cl k).map triA := dget_map triA cl k
                      rw [e] at hc
                      intro hq
                      rw [hq] at hc; cases hc
                    refine ex_nil ?_
                    refine next_is ?_
                    refine ex_nil ?_
                    refine Imp.use hΨ7 ?_
                    refine .inl ⟨rfl, _, cl, rfl, c1, by omega, fun q => ?_⟩
                    rw [hlt, colAt_step, c3 q]
                    split
                    · rename_i e
                      obtain ⟨e1, rfl⟩ := e
                      rw [c3] at hsome
                      unfold colAt at hsome ⊢
                      rw [e1] at hsome ⊢
                      dsimp only at hsome ⊢
                      split
                      · rfl
                      · rename_i hx; rw [if_neg hx] at hsome; exact (hsome rfl).elim
                    · rfl
                · obtain ⟨vn, cl, rfl, c1, c2, c3⟩ := hI
                  refine ⟨.dict (.tail _ (.head _)), ?_⟩
                  refine ex_ret ?_
                  refine ev_callK (ev_glob (by assumption) (.tail _ (.tail _ (.tail _ (.tail _ (.tail _ (.tail _ (.tail _ (.head _)))))))) (gv_Raster _) ⟨_, rfl, rfl, ?_⟩)
                  refine ar_cons ?_
                  refine ev_cel (by assumption) (.tail _ (.head _)) (.tail _ (.tail _ (.tail _ (.tail _ (.head _))))) ?_
                  refine ar_cons ?_
                  refine ev_loc (by assumption) (.tail _ (.tail _ (.head _))) (.tail .head) ?_
                  refine ar_cons ?_
                  refine ev_loc (by assumption) (.tail _ (.tail _ (.head _))) (.tail (.tail (.tail .head))) ?_
                  refine ar_cons ?_
                  refine ev_loc (by assumption) (.tail _ (.tail _ (.head _))) (.tail (.tail (.tail (.tail (.tail (.tail (.tail .head))))))) ?_
                  refine ar_cons ?_
                  refine ev_attr ?_
                  refine ev_cel (by assumption) (.tail _ (.tail _ (.head _))) (.tail _ (.tail _ (.tail _ (.tail _ (.tail _ (.head _)))))) ?_
                  refine ga_inst (by assumption) (.tail _ (.tail _ (.tail _ (.tail _ (.tail _ (.tail _ (.head _))))))) (.tail _ (.tail _ (.tail _ (.tail _ (.tail _ (.tail _ (.tail _ (.head _)))))))) ((.tail (.tail (.tail .head)))) rfl ?_
                  refine ar_nil ?_
                  refine rinit_spec (n := n + 4) r' fun q d' => ?_
                  have e1 : ((ks.map fun k => (k, AV.bool true)).map fun p => AV.int p.1).length = ks.length := by rw [List.length_map, List.length_map]
                  rw [e1] at c2 c3
                  rw [List.take_length] at c3
                  refine ⟨_, _, .ret, ?_, h q d' a2 b bs cl hbs c1 (by have := G.cl; have := G.ln; omega) fun k => ?_⟩
                  · exact .pick .head (.pick .head (.pick (.tail (.tail (.tail (.tail (.tail (.tail (.tail (.tail .head)))))))) (.trans (.pick .head (.tails (.tails (.tails (.tails (.tails (.tails (.tails .rfl)))))))) (.perm List.perm_middle.symm))))
                  · rw [c3]
                    unfold colAt
                    split
                    · rfl
                    · congr 1
                      rw [decide_eq_true_eq, decide_eq_true_eq]
                      exact propext (hk2 k)
end Mine
end
section
open PySem PySem.W PySem.Calls PyProof.Rows
namespace Mine
theorem Ok.init {most : Int} (m1 : 1 ≤ most) (m2 : most ≤ 14) : Ok most 0 RS0 := ⟨m1, m2, Int.le_refl _, by show 0 ≤ most; omega, by decide, by decide, Int.le_refl _, Int.le_refl _, Nat.le_refl _, fun q => (q rfl).elim, Nat.zero_le _, fun _ hx => (nomatch hx), Nat.le_refl _⟩
noncomputable def runI (most : Int) (os : List Int) : RS := os.foldl (putI most) RS0
theorem runI_snoc {most : Int} {os : List Int} {o : Int} : runI most (os ++ [o]) = putI most (runI most os) o := List.foldl_append
theorem runI_ok {most : Int} (m1 : 1 ≤ most) (m2 : most ≤ 14) : ∀ (os : List Int), Ok most os.length (runI most os) := by
  have key : ∀ (os : List Int) (k : Nat) (S : RS), Ok most k S → Ok most (k + os.length) (os.foldl (putI most) S) := by
    intro os
    induction os with
    | nil => intro k S h; exact h
    | cons o r ih =>
      intro k S h
      have := ih (k + 1) _ (h.put (o := o))
      rw [Nat.add_assoc, Nat.add_comm 1] at this
      exact this
  intro os
  have := key os 0 RS0 (.init m1 m2)
  rwa [Nat.zero_add] at this
noncomputable def octs (b : Array UInt8) : List Int := b.toList.map fun c => (c.toNat : Int)
theorem read_spec {C : Cx} {A : Around} {n : Nat} {l : List Ent} {b : Array UInt8} {most : Int} {fl : Bool} {lp : ZP} {T : RS} {Φ : AV → List Ent → Prop} (r : Room A (n + 11)) (m1 : 1 ≤ most) (m2 : most ≤ 14) (hz : b.size ≤ 900)
    (hT : endI most (runI most (octs b)) = T) (G : Geo most T lp)
    (h : ∀ q d' rr cc bs cl, bs.length = (shapeI T.told T.width T.bands most lp).2.toNat → (cl.map (·.1)).Nodup → cl.length ≤ 100000 →
      (∀ k, dget cl k = colAt T.cols (fun k => decide ((fl = true ∧ 0 < (shapeI T.told T.width T.bands most lp).1 ∧ 0 < (shapeI T.told T.width T.bands most lp).2 ∧ k = 0) ∨ k ∈ lp.map (·.2))) k) →
      Φ (.ref q) (rst q d' (shapeI T.told T.width T.bands most lp).1 (shapeI T.told T.width T.bands most lp).2 rr cc T.asp (lst rr (bs.map .ref) ::
        (grid bs (gridOf lp (if fl then 0 else -1) (shapeI T.told T.width T.bands most lp).2.toNat (shapeI T.told T.width T.bands most lp).1.toNat) ++ dicI C cc (colsA cl) :: l)))) :
    Wn C A Is l [.bytes b, .int most, .bool fl] (fun vs => call (.ref 130) vs) Φ := by
  subst hT
  have ho : (Kf C).lookup 130 = some _ := rfl
  have hK := cls_reader C
  refine call_plain (fd := _) (body := _) (params := [Str.ofString "octets", Str.ofString "most", Str.ofString "is_filled"]) (rest := [Str.ofString "reader", Str.ofString "octet"]) (names := [Str.ofString "octets", Str.ofString "most", Str.ofString "is_filled", Str.ofString "reader", Str.ofString "octet"]) (vals := [some (.bytes b), some (.int most), some (.bool fl), none, none]) (n := n + 10)
    ⟨⟨_, C.kin _ _ ho, rfl⟩, codeRec_of C.kin rfl, rfl, rfl, rfl, rfl, rfl, rfl, rfl⟩ r (fun s vs hk hl => ?_) rfl rfl rfl (by decide) rfl rfl fun env E r' => ?_
  · obtain ⟨x, y, z, rfl⟩ := len3 hl
    exact .of_defaults rfl (hk _ _ (C.kin _ _ rfl)) rfl rfl rfl
  · clear ho
    have hT := E.loc (names := [Str.ofString "octets", Str.ofString "most", Str.ofString "is_filled", Str.ofString "reader", Str.ofString "octet"]) rfl rfl
    have hG := E.glob (names := [Str.ofString "SixelReader"]) rfl rfl
    have hI := E.inter rfl
    have hlen : (octs b).length = b.size := by unfold octs; rw [List.length_map, Array.length_toList]
    refine ex_assign ?_
    refine ev_callK (ev_glob (by assumption) (.head _) (gv_Reader _) ⟨_, rfl, rfl, ?_⟩)
    refine ar_cons ?_
    refine ev_loc (by assumption) (.head _) (.tail .head) ?_
    refine ar_nil ?_
    refine init_spec (n := n + 6) (m := most) (most := most) r' (by omega) fun a d dp dc ln => ?_
    refine W1.gives (l' := ns env.locals [Str.ofString "octets", Str.ofString "most", Str.ofString "is_filled", Str.ofString "reader", Str.ofString "octet"] [some (.bytes b), some (.int most), some (.bool fl), none, none] :: rdr C most a d dp dc ln RS0 l) ?_ ?_
    · exact (.pick (.tail (.tail (.tail (.tail (.tail .head))))) (.pick .head (.pick .head (.pick .head (.pick .head (.pick .head .rfl))))))
    refine st_loc (by assumption) (.head) ((.tail (.tail (.tail .head)))) ?_
    refine ex_for r' ?_
    refine ev_loc (by assumption) (.head _) .head ?_
    refine ⟨_, _, fun i l' => ∃ (vo : Option AV) (ln' : Addr), l' = ns env.locals [Str.ofString "octets", Str.ofString "most", Str.ofString "is_filled", Str.ofString "reader", Str.ofString "octet"] [some (.bytes b), some (.int most), some (.bool fl), some (.ref a), vo] :: rdr C most a d dp dc ln' (runI most ((octs b).take i)) l, .bytes, ⟨none, ln, rfl⟩, fun i y l' hy hI => ?_, fun l' hI => ?_⟩
    · obtain ⟨vo, ln', rfl⟩ := hI
      refine ⟨.bytes, ?_⟩
      obtain ⟨o, ho, rfl⟩ : ∃ o, (octs b)[i]? = some o ∧ y = .int o := by
        unfold octs
        rw [List.getElem?_map] at hy ⊢
        cases hq : b.toList[i]? with
        | none => rw [hq] at hy; cases hy
        | some c => rw [hq] at hy; exact ⟨_, rfl, (Option.some.inj hy).symm⟩
      have hi := (List.getElem?_eq_some_iff.mp ho).1
      have hlt : (octs b).take (i + 1) = (octs b).take i ++ [o] := by rw [List.take_add_one, ho]; rfl
      have h0 : 0 ≤ o := by
        have := List.mem_of_getElem? ho
        unfold octs at this
        obtain ⟨c, _, rfl⟩ := List.mem_map.mp this
        exact Int.natCast_nonneg _
      have O := runI_ok m1 m2 ((octs b).take i)
      have hl : ((octs b).take i).length ≤ 900 := by rw [List.length_take]; omega
      refine as_name ?_
      refine st_loc (by assumption) (.head) ((.tail (.tail (.tail (.tail .head))))) ?_
      refine ex_expr ?_ (by assumption)
      refine ev_meth (g := 91) ?_ rfl rfl
      refine ev_loc (by assumption) (.head _) (.tail (.tail (.tail .head))) ?_
      refine ⟨_, 118, _, _, _, rfl, hK, .tail _ (.head _), .tail _ (.tail _ (.head _)), rfl, by decide, ?_⟩
      refine ar_cons ?_
      refine ev_loc (by assumption) (.head _) (.tail (.tail (.tail (.tail .head)))) ?_
      refine ar_nil ?_
      refine .gives (.pick (.tail .head) (.pick (.tail .head) (.pick (.tail .head) (.pick (.tail .head) (.pick (.tail .head) .rfl))))) ?_
      refine put_spec (n := n + 1) r' O (by omega) h0 fun ln2 => ?_
      refine ⟨rfl, ?_⟩
      refine .gives (.pick (.tail (.tail (.tail (.tail (.tail .head))))) .rfl) ?_
      refine ex_nil ?_
      refine .inl ⟨rfl, some (.int o), ln2, ?_⟩
      rw [hlt, runI_snoc]
    · obtain ⟨vo, ln', rfl⟩ := hI
      refine ⟨.bytes, ?_⟩
      have e1 : (b.toList.map fun c => AV.int (c.toNat : Int)).length = (octs b).length := by rw [hlen, List.length_map, Array.length_toList]
      rw [e1, List.take_length]
      have O := runI_ok m1 m2 (octs b)
      refine ex_ret ?_
      refine ev_meth (g := 115) ?_ rfl rfl
      refine ev_loc (by assumption) (.head _) (.tail (.tail (.tail .head))) ?_
      refine ⟨_, 118, _, _, _, rfl, hK, .tail _ (.head _), .tail _ (.tail _ (.head _)), rfl, by decide, ?_⟩
      refine ar_cons ?_
      refine ev_loc (by assumption) (.head _) (.tail (.tail .head)) ?_
      refine ar_nil ?_
      refine .gives (.pick (.tail .head) (.pick (.tail .head) (.pick (.tail .head) (.pick (.tail .head) (.pick (.tail .head) .rfl))))) ?_
      refine raster_spec (n := n + 1) r' (O.r (by omega)) G fun q d' rr cc bs cl h1 h2 h3 h4 => ?_
      refine ⟨_, _, .ret, ?_, h q d' rr cc bs cl h1 h2 h3 h4⟩
      exact .pick .head (.pick .head (.pick .head (.sub ((List.Sublist.refl _).append (List.Sublist.cons_cons _ (List.Sublist.cons _ (List.Sublist.refl _)))))))
end Mine
end
section
open PySem PySem.W PySem.Calls PyProof.Rows
namespace Mine
noncomputable def segOk (k : Nat) : Nat → List Nat → Prop
  | n, [] => n ≤ k
  | n, c :: r => n ≤ k ∧ (if c = 59 then segOk k 0 r else segOk k (n + 1) r)
theorem segOk.mono {k k' : Nat} (h : k ≤ k') : ∀ {l : List Nat} {n n' : Nat}, n' ≤ n + (k' - k) → segOk k n l → segOk k' n' l
  | [], n, n', hn, s => by
    have : n ≤ k := s
    show n' ≤ k'
    omega
  | c :: r, n, n', hn, s => by
    obtain ⟨h1, h2⟩ := s
    refine ⟨by omega, ?_⟩
    by_cases e : c = 59
    · rw [if_pos e] at h2 ⊢; exact segOk.mono h (Nat.zero_le _) h2
    · rw [if_neg e] at h2 ⊢; exact segOk.mono h (by omega) h2
theorem segOk.app {k m : Nat} {l' : List Nat} (t : segOk m 0 l') : ∀ {l : List Nat} {n : Nat}, segOk k n l → segOk (k + m) n (l ++ l')
  | [], n, s => segOk.mono (Nat.le_add_left ..) (by have : n ≤ k := s; omega) t
  | c :: r, n, s => by
    obtain ⟨h1, h2⟩ := s
    refine ⟨by omega, ?_⟩
    by_cases e : c = 59
    · rw [if_pos e] at h2 ⊢; exact segOk.app t h2
    · rw [if_neg e] at h2 ⊢; exact segOk.app t h2
theorem segOk.semi {k : Nat} {l' : List Nat} (t : segOk k 0 l') : ∀ {l : List Nat} {n : Nat}, segOk k n l → segOk k n (l ++ 59 :: l')
  | [], n, s => ⟨s, by rw [if_pos rfl]; exact t⟩
  | c :: r, n, s => by
    obtain ⟨h1, h2⟩ := s
    refine ⟨h1, ?_⟩
    by_cases e : c = 59
    · rw [if_pos e] at h2 ⊢; exact segOk.semi t h2
    · rw [if_neg e] at h2 ⊢; exact segOk.semi t h2
theorem segOk.short {k : Nat} : ∀ {l : List Nat} {n : Nat}, n + l.length ≤ k → segOk k n l
  | [], n, h => h
  | c :: r, n, h => by
    rw [List.length_cons] at h
    refine ⟨by omega, ?_⟩
    split
    · exact segOk.short (by omega)
    · exact segOk.short (by omega)
theorem segOk.drop {k : Nat} : ∀ {l : List Nat} {n : Nat}, segOk k n l → ∀ i, segOk k 0 (l.drop i)
  | l, n, s, 0 => segOk.mono (Nat.le_refl _) (Nat.zero_le _) s
  | [], n, s, i + 1 => Nat.zero_le _
  | c :: r, n, s, i + 1 => by
    have h2 := s.2
    rw [List.drop_succ_cons]
    split at h2
    · exact segOk.drop h2 i
    · exact segOk.drop h2 i
theorem segOk.take {k : Nat} : ∀ {l : List Nat} {n : Nat}, segOk k n l → ∀ i, segOk k n (l.take i)
  | [], n, s, i => by rw [List.take_nil]; exact s
  | c :: r, n, s, 0 => s.1
  | c :: r, n, s, i + 1 => by
    refine ⟨s.1, ?_⟩
    have h2 := s.2
    split at h2
    · rename_i e; rw [if_pos e]; exact segOk.take h2 i
    · rename_i e; rw [if_neg e]; exact segOk.take h2 i
structure Pc (x : Str) (k m : Nat) : Prop where
  len : x.length ≤ k
  low : ∀ c ∈ x.cps.toList, c < 256
  seg : segOk m 0 x.cps.toList
theorem Pc.app {x y : Str} {k m k' m' : Nat} (h : Pc x k m) (t : Pc y k' m') : Pc (x ++ y) (k + k') (m + m') := by
  refine ⟨by rw [Str.length_append]; have := h.len; have := t.len; omega, fun c hc => ?_, ?_⟩
  · rw [Str.cps_append, Array.toList_append] at hc
    exact (List.mem_append.mp hc).elim (h.low c) (t.low c)
  · rw [Str.cps_append, Array.toList_append]; exact segOk.app t.seg h.seg
theorem Pc.mono {x : Str} {k m k' m' : Nat} (h : Pc x k m) (hk : k ≤ k') (hm : m ≤ m') : Pc x k' m' := ⟨Nat.le_trans h.len hk, h.low, h.seg.mono hm (Nat.zero_le _)⟩
theorem Pc.short {x : Str} {k : Nat} (h : x.length ≤ k) (hl : ∀ c ∈ x.cps.toList, c < 256) : Pc x k k := ⟨h, hl, .short (by rw [Nat.zero_add, Array.length_toList]; exact h)⟩
theorem Pc.joinE : ∀ {xs : List Str} {k m : Nat}, (∀ x ∈ xs, Pc x k m) → Pc (Str.join (Str.ofString "") xs) (xs.length * k) (xs.length * m)
  | [], k, m, _ => ⟨Nat.zero_le _, fun c hc => (nomatch hc), Nat.zero_le _⟩
  | [x], k, m, h => by rw [List.length_singleton, Nat.one_mul, Nat.one_mul]; exact h x (.head _)
  | x :: y :: r, k, m, h => by
    have e : Str.join (Str.ofString "") (x :: y :: r) = x ++ Str.ofString "" ++ Str.join (Str.ofString "") (y :: r) := rfl
    have t := ((h x (.head _)).app (Pc.short (x := Str.ofString "") (k := 0) (by decide) (by decide))).app (Pc.joinE (xs := y :: r) fun z hz => h z (.tail _ hz))
    rw [e]
    exact t.mono (by rw [List.length_cons (a := x), Nat.succ_mul]; omega) (by rw [List.length_cons (a := x), Nat.succ_mul]; omega)
theorem Pc.joinS : ∀ {xs : List Str} {k m : Nat}, (∀ x ∈ xs, Pc x k m) → Pc (Str.join (Str.ofString ";") xs) (xs.length * (k + 1)) m
  | [], k, m, _ => ⟨Nat.zero_le _, fun c hc => (nomatch hc), Nat.zero_le _⟩
  | [x], k, m, h => by rw [List.length_singleton, Nat.one_mul]; exact (h x (.head _)).mono (Nat.le_succ _) (Nat.le_refl _)
  | x :: y :: r, k, m, h => by
    have e : Str.join (Str.ofString ";") (x :: y :: r) = x ++ Str.ofString ";" ++ Str.join (Str.ofString ";") (y :: r) := rfl
    have t := Pc.joinS (xs := y :: r) fun z hz => h z (.tail _ hz)
    have hx := h x (.head _)
    have ec : (x ++ Str.ofString ";" ++ Str.join (Str.ofString ";") (y :: r)).cps.toList = x.cps.toList ++ 59 :: (Str.join (Str.ofString ";") (y :: r)).cps.toList := by
      rw [Str.cps_append, Array.toList_append, Str.cps_append, Array.toList_append, List.append_assoc]; rfl
    rw [e]
    refine ⟨?_, fun c hc => ?_, ?_⟩
    · rw [Str.length_append, Str.length_append]
      have e1 : (Str.ofString ";").length = 1 := by decide
      have := hx.len
      have := t.len
      rw [List.length_cons (a := x), Nat.succ_mul]; omega
    · rw [ec] at hc
      rcases List.mem_append.mp hc with hc | hc
      · exact hx.low c hc
      · rcases List.mem_cons.mp hc with rfl | hc
        · decide
        · exact t.low c hc
    · rw [ec]; exact segOk.semi t.seg hx.seg
theorem pc_at {ss : List String} {k : Nat} (h : ∀ s ∈ ss, (Str.ofString s).length ≤ k ∧ ∀ c ∈ (Str.ofString s).cps.toList, c < 256) {v : Int} (h0 : 0 ≤ v) (h1 : v < ss.length) :
    ∃ x, At (ss.map fun s => AV.str (Str.ofString s)) v (.str x) ∧ Pc x k k := by
  have hv : v.toNat < ss.length := by omega
  refine ⟨Str.ofString ss[v.toNat], .pos h0 (by rw [List.getElem?_map, List.getElem?_eq_getElem hv]; rfl), ?_⟩
  obtain ⟨a, b⟩ := h _ (List.getElem_mem hv)
  exact .short a b
end Mine
end
section
open PySem PySem.W PySem.Calls PyProof.Rows
namespace Mine
theorem next_spec {C : Cx} {A : Around} {n : Nat} {l : List Ent} {t : Addr} {ms : List Int} {many : Int} {Φ : AV → List Ent → Prop} (r : Room A (n + 1)) (hm : 0 < many) (hz : ms.length ≤ 1000)
    (h : ∀ v (ms' : List Int), 0 ≤ v → v < many → ms'.length ≤ ms.length → Φ (.int v) (lst t (ms'.map .int) :: l)) : Wn C A Is (lst t (ms.map .int) :: l) [.ref t, .int many] (fun vs => call (.ref 154) vs) Φ := by
  have ho : (Kf C).lookup 154 = some _ := rfl
  refine call_plain (fd := _) (body := _) (params := [Str.ofString "tape", Str.ofString "many"]) (rest := []) (names := [Str.ofString "tape", Str.ofString "many"]) (vals := [some (.ref t), some (.int many)]) (n := n)
    ⟨⟨_, C.kin _ _ ho, rfl⟩, codeRec_of C.kin rfl, rfl, rfl, rfl, rfl, rfl, rfl, rfl⟩ r (fun s vs _ hl => ?_) rfl rfl rfl (by decide) rfl rfl fun env E r' => ?_
  · obtain ⟨x, y, rfl⟩ := len2 hl
    exact .of_eq rfl
  · clear ho
    have hT := E.loc (names := [Str.ofString "tape", Str.ofString "many"]) rfl rfl
    refine ex_ret ?_
    refine ev_if ?_
    refine tr_cmp ?_
    refine ev_loc (by assumption) (.head _) .head ?_
    refine ev_list ?_
    refine ar_nil ?_
    refine ⟨Nat.le_of_ble_eq_true rfl, fun e => ?_⟩
    refine c2_ne_nil r' (.tail _ (.tail _ (.head _))) (.head _) (by rw [List.length_map]; omega) ?_
    refine ⟨_, .bool _, ?_⟩
    refine dec_split (fun hc => ?_) (fun hc => ?_)
    · have hne : ms ≠ [] := fun q => hc (by rw [q]; rfl)
      obtain ⟨m, ms', rfl⟩ : ∃ m ms', ms = ms' ++ [m] := ⟨_, _, (List.dropLast_concat_getLast hne).symm⟩
      refine ev_bin ?_
      refine ev_bm0 bm_pop ?_
      refine ev_loc (by assumption) (.tail _ (.head _)) .head ?_
      refine ⟨.list (.tail _ (.tail _ (.head _))), ?_⟩
      rw [List.map_append]
      refine m_pop (.tail (.tail .head)) (by rw [List.length_append] at hz; rw [List.length_map]; omega) ?_
      refine ev_loc (by assumption) (.tail _ (.head _)) (.tail .head) ?_
      refine o2_mod (by omega) ?_
      refine ⟨_, _, .ret, ?_, h (m % many) ms' (Int.emod_nonneg _ (by omega)) (Int.emod_lt_of_pos _ hm) (by rw [List.length_append]; omega)⟩
      exact (.pick (.tail (.tail .head)) (.tails (.tails .rfl)))
    · refine ev_int ?_
      refine ⟨_, _, .ret, ?_, h 0 ms (Int.le_refl _) hm (Nat.le_refl _)⟩
      exact (.pick (.tail (.tail .head)) (.tails (.tails .rfl)))
theorem figures_spec {C : Cx} {A : Around} {n : Nat} {l : List Ent} {t : Addr} {ms : List Int} {Φ : AV → List Ent → Prop} (r : Room A (n + 3)) (hz : ms.length ≤ 1000)
    (h : ∀ x (ms' : List Int), Pc x 5 5 → ms'.length ≤ ms.length → Φ (.str x) (lst t (ms'.map .int) :: l)) : Wn C A Is (lst t (ms.map .int) :: l) [.ref t] (fun vs => call (.ref 161) vs) Φ := by
  have ho : (Kf C).lookup 161 = some _ := rfl
  refine call_plain (fd := _) (body := _) (params := [Str.ofString "tape"]) (rest := []) (names := [Str.ofString "tape"]) (vals := [some (.ref t)]) (n := n + 2)
    ⟨⟨_, C.kin _ _ ho, rfl⟩, codeRec_of C.kin rfl, rfl, rfl, rfl, rfl, rfl, rfl, rfl⟩ r (fun s vs _ hl => ?_) rfl rfl rfl (by decide) rfl rfl fun env E r' => ?_
  · obtain ⟨x, rfl⟩ := len1 hl
    exact .of_eq rfl
  · clear ho
    have hT := E.loc (names := [Str.ofString "tape"]) rfl rfl
    have hG := E.glob (names := [Str.ofString "_law_next"]) rfl rfl
    refine ex_ret ?_
    refine ev_sub ?_
    refine ev_tup ?_
    refine ar_cons ?_
    refine ev_str ?_
    refine ar_cons ?_
    refine ev_str ?_
    refine ar_cons ?_
    refine ev_str ?_
    refine ar_cons ?_
    refine ev_str ?_
    refine ar_cons ?_
    refine ev_str ?_
    refine ar_cons ?_
    refine ev_str ?_
    refine ar_cons ?_
    refine ev_str ?_
    refine ar_cons ?_
    refine ev_str ?_
    refine ar_nil ?_
    refine ⟨Nat.le_of_ble_eq_true rfl, ?_⟩
    refine ev_callK (ev_glob (by assumption) (.head _) (gv_next _) ⟨_, rfl, rfl, ?_⟩)
    refine ar_cons ?_
    refine ev_loc (by assumption) (.head _) .head ?_
    refine ar_cons ?_
    refine ev_int ?_
    refine ar_nil ?_
    refine .gives (.pick (.tail .head) .rfl) ?_
    refine next_spec (n := n + 1) r' (by decide) hz fun v ms' h0 h1 h2 => ?_
    obtain ⟨x, hx, hp⟩ := pc_at (ss := ["", "0", "1", "3", "7", "13", "260", "99999"]) (k := 5) (by decide) h0 h1
    refine gi_tup hx (Nat.le_of_ble_eq_true rfl) ?_
    refine ⟨_, _, .ret, ?_, h x ms' hp h2⟩
    exact (.pick .head (.tails .rfl))
end Mine
end
section
open PySem PySem.W PySem.Calls PyProof.Rows
namespace Mine
theorem o2_pc {C : Cx} {A : Around} {l : List Ent} {x y : Str} {k m k' m' : Nat} {Φ : AV → List Ent → Prop} (hx : Pc x k m) (hy : Pc y k' m') (hk : k + k' ≤ 100000) (h : Φ (.str (x ++ y)) l) : W2 C A Is l (.str x) (.str y) (binaryOp .Add) Φ :=
  o2_str (by have := hx.len; have := hy.len; omega) h
theorem pc_sum {k m : Nat} : ∀ {xs : List Str}, (∀ x ∈ xs, Pc x k m) → (xs.map (·.length)).sum ≤ xs.length * k
  | [], _ => Nat.zero_le _
  | x :: r, h => by
    have h1 := (h x (.head _)).len
    have h2 := pc_sum (xs := r) fun y hy => h y (.tail _ hy)
    rw [List.map_cons, List.sum_cons, List.length_cons, Nat.succ_mul]; omega
theorem bm_join : BM "str" "join" "str.join" := ⟨F.plainAttrs_str, F.slot_str_join, F.type_str_join⟩
theorem pc_lit (s : String) (k : Nat) (h : ((Str.ofString s).length ≤ k ∧ ∀ c ∈ (Str.ofString s).cps.toList, c < 256) := by decide) : Pc (Str.ofString s) k k := .short h.1 h.2
theorem pc_one {c : Nat} (h : c < 256) : Pc ⟨#[c]⟩ 1 1 := .short (Nat.le_refl 1) fun d hd => by
  have : d = c := by simpa using hd
  omega
theorem pc_char {x : Str} {k m : Nat} (h : Pc x k m) {v : Int} (h0 : 0 ≤ v) (h1 : v < x.length) : ∃ c, At x.cps.toList v c ∧ Pc ⟨#[c]⟩ 1 1 := by
  have hv : v.toNat < x.cps.toList.length := by rw [Array.length_toList]; have : (x.length : Int) = (x.cps.size : Nat) := rfl; omega
  exact ⟨_, .pos h0 (List.getElem?_eq_getElem hv), pc_one (h.low _ (List.getElem_mem hv))⟩
set_option maxRecDepth 20000 in
set_option maxHeartbeats 1000000 in
theorem piece_spec {C : Cx} {A : Around} {n : Nat} {l : List Ent} {t : Addr} {ms : List Int} {Φ : AV → List Ent → Prop} (r : Room A (n + 6)) (hz : ms.length ≤ 1000)
    (h : ∀ x (ms' : List Int), Pc x 61 24 → ms'.length ≤ ms.length → Φ (.str x) (lst t (ms'.map .int) :: l)) : Wn C A Is (lst t (ms.map .int) :: l) [.ref t] (fun vs => call (.ref 166) vs) Φ := by
  have ho : (Kf C).lookup 166 = some _ := rfl
  refine call_cels (fd := _) (body := _) (params := [Str.ofString "tape"]) (names := [Str.ofString "way", Str.ofString "piece", Str.ofString "part"]) (cn := [Str.ofString "tape"]) (vals := [none, none, none]) (cvals := [some (.ref t)]) (n := n + 5)
    ⟨⟨_, C.kin _ _ ho, rfl⟩, codeRec_of C.kin rfl, rfl, rfl, rfl, rfl, rfl, rfl, rfl⟩ r (fun vs hl => ?_) rfl rfl rfl (by decide) (by decide) (by decide) (by decide) (.none (.none (.none .nil))) (.some .head .nil) fun env cl hcl E r' => ?_
  · obtain ⟨x, rfl⟩ := len1 hl
    exact rfl
  · clear ho
    obtain ⟨ct, rfl⟩ := cl1 hcl
    have hT := E.loc (names := [Str.ofString "way", Str.ofString "piece", Str.ofString "part"]) rfl rfl
    have hG := E.glob (names := [Str.ofString "_law_next", Str.ofString "chr", Str.ofString "_law_figures", Str.ofString "range"]) rfl rfl
    have hC := E.cel rfl rfl (List.nodup_cons.mpr ⟨List.not_mem_nil, List.nodup_nil⟩)
    have hI := E.inter rfl
    show WF C _ (ns env.locals [Str.ofString "way", Str.ofString "piece", Str.ofString "part"] [none, none, none] :: cel ct (some (.ref t)) :: lst t (ms.map .int) :: l) _ _
    refine ex_assign ?_
    refine ev_callK (ev_glob (by assumption) (.head _) (gv_next _) ⟨_, rfl, rfl, ?_⟩)
    refine ar_cons ?_
    refine ev_cel (by assumption) (.head _) (.tail _ (.head _)) ?_
    refine ar_cons ?_
    refine ev_int ?_
    refine ar_nil ?_
    refine .gives (.pick (.tail (.tail .head)) .rfl) ?_
    refine next_spec (n := n + 4) r' (by decide) hz fun way ms1 w0 w1 z1 => ?_
    refine st_loc (by assumption) ((.tail .head)) (.head) ?_
    refine ex_if ?_
    refine tr_cmp ?_
    refine ev_loc (by assumption) (.tail _ (.head _)) .head ?_
    refine ev_int ?_
    refine c2_lt ?_
    refine ⟨_, .bool _, ?_⟩
    refine dec_split (fun hc => ?_) (fun hc => ?_)
    · refine ex_ret ?_
      refine ev_callB (ev_glob (by assumption) (.tail _ (.head _)) (gv_chr _) ⟨_, rfl, ?_⟩)
      refine ar_cons ?_
      refine ev_bin ?_
      refine ev_int ?_
      refine ev_callK (ev_glob (by assumption) (.head _) (gv_next _) ⟨_, rfl, rfl, ?_⟩)
      refine ar_cons ?_
      refine ev_cel (by assumption) (.head _) (.tail _ (.tail _ (.head _))) ?_
      refine ar_cons ?_
      refine ev_int ?_
      refine ar_nil ?_
      refine next_spec (n := n + 4) r' (by decide) (by omega) fun v ms2 v0 v1 z2 => ?_
      refine o2_add ?_
      refine ar_nil ?_
      refine b_chr (by omega) (by omega) ?_
      refine ret_is ?_
      refine ⟨_, _, .ret, ?_, h _ ms2 ((pc_one (c := (63 + v).toNat) (by omega)).mono (by decide) (by decide)) (by omega)⟩
      exact (.pick .head (.tails (.tails .rfl)))
    · refine ex_nil ?_
      refine next_is ?_
      refine ex_if ?_
      refine tr_cmp ?_
      refine ev_loc (by assumption) (.tail _ (.head _)) .head ?_
      refine ev_int ?_
      refine c2_lt ?_
      refine ⟨_, .bool _, ?_⟩
      refine dec_split (fun hc => ?_) (fun hc => ?_)
      · refine ex_ret ?_
        refine ev_bin ?_
        refine ev_sub ?_
        refine ev_str ?_
        refine ev_bin ?_
        refine ev_loc (by assumption) (.tail _ (.head _)) .head ?_
        refine ev_int ?_
        refine o2_sub ?_
        obtain ⟨c, hc1, hp1⟩ := pc_char (pc_lit "!#" 2) (v := way - 4) (by omega) (by show _ < (2 : Int); omega)
        refine gi_str hc1 (by decide) ?_
        refine ev_callK (ev_glob (by assumption) (.tail _ (.tail _ (.head _))) (gv_figures _) ⟨_, rfl, rfl, ?_⟩)
        refine ar_cons ?_
        refine ev_cel (by assumption) (.head _) (.tail _ (.tail _ (.head _))) ?_
        refine ar_nil ?_
        refine figures_spec (n := n + 2) r' (Nat.le_trans z1 hz) fun x ms2 p2 z2 => ?_
        refine o2_pc hp1 p2 (by decide) ?_
        refine ret_is ?_
        refine ⟨_, _, .ret, ?_, h _ ms2 ((hp1.app p2).mono (by decide) (by decide)) (by omega)⟩
        exact (.pick .head (.tails (.tails .rfl)))
      · refine ex_nil ?_
        refine next_is ?_
        refine ex_if ?_
        refine tr_cmp ?_
        refine ev_loc (by assumption) (.tail _ (.head _)) .head ?_
        refine ev_int ?_
        refine c2_eq ?_
        refine ⟨_, .bool _, ?_⟩
        refine dec_split (fun hc => ?_) (fun hc => ?_)
        · refine ex_assign ?_
          refine ev_bin ?_
          refine ev_bin ?_
          refine ev_bin ?_
          refine ev_str ?_
          refine ev_callK (ev_glob (by assumption) (.tail _ (.tail _ (.head _))) (gv_figures _) ⟨_, rfl, rfl, ?_⟩)
          refine ar_cons ?_
          refine ev_cel (by assumption) (.head _) (.tail _ (.tail _ (.head _))) ?_
          refine ar_nil ?_
          refine figures_spec (n := n + 2) r' (Nat.le_trans z1 hz) fun x ms2 p2 z2 => ?_
          refine o2_pc (pc_lit "#" 1) p2 (by decide) ?_
          refine ev_str ?_
          refine o2_pc ((pc_lit "#" 1).app p2) (pc_lit ";" 1) (by decide) ?_
          refine ev_sub ?_
          refine ev_tup ?_
          refine ar_cons ?_
          refine ev_str ?_
          refine ar_cons ?_
          refine ev_str ?_
          refine ar_cons ?_
          refine ev_str ?_
          refine ar_cons ?_
          refine ev_str ?_
          refine ar_nil ?_
          refine ⟨Nat.le_of_ble_eq_true rfl, ?_⟩
          refine ev_callK (ev_glob (by assumption) (.head _) (gv_next _) ⟨_, rfl, rfl, ?_⟩)
          refine ar_cons ?_
          refine ev_cel (by assumption) (.head _) (.tail _ (.tail _ (.head _))) ?_
          refine ar_cons ?_
          refine ev_int ?_
          refine ar_nil ?_
          refine next_spec (n := n + 4) r' (by decide) (by omega) fun v ms3 v0 v1 z3 => ?_
          obtain ⟨y, hy, hp⟩ := pc_at (ss := ["1", "2", "", "3"]) (k := 1) (by decide) v0 v1
          refine gi_tup hy (Nat.le_of_ble_eq_true rfl) ?_
          have hP := ((((pc_lit "#" 1).app p2).app (pc_lit ";" 1)).app hp)
          refine o2_pc (((pc_lit "#" 1).app p2).app (pc_lit ";" 1)) hp (by decide) ?_
          refine W1.gives (.pick (.tail .head) .rfl) ?_
          refine st_loc (by assumption) (.head) ((.tail .head)) ?_
          refine ex_for r' ?_
          refine ev_callT (ev_glob (by assumption) (.tail _ (.tail _ (.tail _ (.head _)))) (gv_range _) ⟨_, rfl, ?_⟩)
          refine ar_cons ?_
          refine ev_callK (ev_glob (by assumption) (.head _) (gv_next _) ⟨_, rfl, rfl, ?_⟩)
          refine ar_cons ?_
          refine ev_cel (by assumption) (.head _) (.tail _ (.tail _ (.head _))) ?_
          refine ar_cons ?_
          refine ev_int ?_
          refine ar_nil ?_
          refine .gives (.pick (.tail .head) .rfl) ?_
          refine next_spec (n := n + 4) (many := 5) r' (by decide) (by omega) fun w ms3' w2 w3 z4 => ?_
          refine ar_nil ?_
          refine b_range1 fun rr => ?_
          have hR1 : RB 0 w := .of0 (by omega) (by omega)
          refine ⟨_, _, fun i l' => ∃ (p : Str) (ms4 : List Int) (vp : Option AV), l' = rng rr 0 w :: lst t (ms4.map .int) :: ns env.locals [Str.ofString "way", Str.ofString "piece", Str.ofString "part"] [some (.int way), some (.str p), vp] :: cel ct (some (.ref t)) :: l ∧ Pc p (8 + 4 * i) (8 + 4 * i) ∧ ms4.length ≤ ms.length, .rng (.head _) hR1, ⟨_, ms3', none, rfl, hP, by omega⟩, fun i y l' hy hI => ?_, fun l' hI => ?_⟩
          · obtain ⟨p, ms4, vp, rfl, hp4, z4⟩ := hI
            obtain ⟨hi, rfl⟩ := range_at hy
            refine ⟨.rng (.head _) hR1, ?_⟩
            refine as_name ?_
            refine st_loc (by assumption) ((.tail (.tail .head))) ((.tail (.tail .head))) ?_
            refine ex_assign ?_
            refine ev_bin ?_
            refine ev_bin ?_
            refine ev_loc (by assumption) (.tail _ (.tail _ (.head _))) (.tail .head) ?_
            refine ev_str ?_
            refine o2_pc hp4 (pc_lit ";" 1) (by omega) ?_
            refine ev_sub ?_
            refine ev_tup ?_
            refine ar_cons ?_
            refine ev_str ?_
            refine ar_cons ?_
            refine ev_str ?_
            refine ar_cons ?_
            refine ev_str ?_
            refine ar_cons ?_
            refine ev_str ?_
            refine ar_cons ?_
            refine ev_str ?_
            refine ar_nil ?_
            refine ⟨Nat.le_of_ble_eq_true rfl, ?_⟩
            refine ev_callK (ev_glob (by assumption) (.head _) (gv_next _) ⟨_, rfl, rfl, ?_⟩)
            refine ar_cons ?_
            refine ev_cel (by assumption) (.head _) (.tail _ (.tail _ (.tail _ (.head _)))) ?_
            refine ar_cons ?_
            refine ev_int ?_
            refine ar_nil ?_
            refine .gives (.pick (.tail .head) .rfl) ?_
            refine next_spec (n := n + 4) (many := 5) r' (by decide) (Nat.le_trans z4 hz) fun v2 ms5 a0 a1 z5 => ?_
            obtain ⟨y2, hy2, hp2⟩ := pc_at (ss := ["50", "", "100", "130", "400"]) (k := 3) (by decide) a0 a1
            refine gi_tup hy2 (Nat.le_of_ble_eq_true rfl) ?_
            refine o2_pc (hp4.app (pc_lit ";" 1)) hp2 (by omega) ?_
            refine W1.gives (.pick (.tail .head) .rfl) ?_
            refine st_loc (by assumption) ((.tail (.tail .head))) ((.tail .head)) ?_
            refine ex_nil ?_
            refine .inl ⟨rfl, _, ms5, some (.int (0 + (i : Int))), rfl, ((hp4.app (pc_lit ";" 1)).app hp2).mono (by omega) (by omega), by omega⟩
          · obtain ⟨p, ms4, vp, rfl, hp4, z4⟩ := hI
            refine ⟨.rng (.head _) hR1, ?_⟩
            rw [range_len] at hp4
            refine ex_ret ?_
            refine ev_loc (by assumption) (.tail _ (.tail _ (.head _))) (.tail .head) ?_
            refine ret_is ?_
            refine ⟨_, _, .ret, ?_, h _ ms4 (hp4.mono (by omega) (by omega)) z4⟩
            exact (.pick (.tail .head) (.tails (.tails (.tails .rfl))))
        · refine ex_nil ?_
          refine next_is ?_
          refine ex_if ?_
          refine tr_cmp ?_
          refine ev_loc (by assumption) (.tail _ (.head _)) .head ?_
          refine ev_int ?_
          refine c2_eq ?_
          refine ⟨_, .bool _, ?_⟩
          refine dec_split (fun hc => ?_) (fun hc => ?_)
          · refine ex_ret ?_
            refine ev_bin ?_
            refine ev_str ?_
            refine ev_bm bm_join ?_
            refine ev_str ?_
            refine ⟨.str, ?_⟩
            refine ar_cons ?_
            refine ev_comp1 (cl' := [(Str.ofString "tape", ct)]) (names := [Str.ofString "part"]) r' E rfl (by decide) rfl (by decide) (by decide) ?_
            refine ev_callT (ev_glob (by assumption) (.tail _ (.tail _ (.tail _ (.head _)))) (gv_range _) ⟨_, rfl, ?_⟩)
            refine ar_cons ?_
            refine ev_callK (ev_glob (by assumption) (.head _) (gv_next _) ⟨_, rfl, rfl, ?_⟩)
            refine ar_cons ?_
            refine ev_cel (by assumption) (.head _) (.tail _ (.tail _ (.head _))) ?_
            refine ar_cons ?_
            refine ev_int ?_
            refine ar_nil ?_
            refine next_spec (n := n + 4) (many := 11) r' (by decide) (Nat.le_trans z1 hz) fun w ms2 w2 w3 z2 => ?_
            refine ar_nil ?_
            refine b_range1 fun rr => ?_
            have hR2 : RB 0 w := .of0 (by omega) (by omega)
            refine ⟨_, _, fun i ys l' => ∃ (xs : List Str) (ms4 : List Int), l' = rng rr 0 w :: lst t (ms4.map .int) :: ns env.locals [Str.ofString "way", Str.ofString "piece", Str.ofString "part"] [some (.int way), none, none] :: cel ct (some (.ref t)) :: l ∧ ys = xs.map .str ∧ (∀ x ∈ xs, Pc x 5 5) ∧ ms4.length ≤ ms.length,
              .rng (.head _) hR2, by rw [range_len]; omega, ⟨[], ms2, rfl, rfl, fun _ h => (nomatch h), by omega⟩, fun cenv Ec i y ys l' hy hI => ?_, fun ys l' hI hl => ?_⟩
            · obtain ⟨xs, ms4, rfl, rfl, hp4, z4⟩ := hI
              obtain ⟨hi, rfl⟩ := range_at hy
              refine ⟨.rng (.head _) hR2, ?_⟩
              have hT := Ec.loc (names := [Str.ofString "part"]) rfl rfl
              have hG := Ec.glob (names := [Str.ofString "_law_figures"]) rfl rfl
              have hC := Ec.cel rfl rfl (List.nodup_cons.mpr ⟨List.not_mem_nil, List.nodup_nil⟩)
              show W1 C _ isEq (ns cenv.locals [Str.ofString "part"] [none] :: _) _ _ _
              refine as_name ?_
              refine st_loc (by assumption) (.head) (.head) ?_
              refine ev_callK (ev_glob (by assumption) (.head _) (gv_figures _) ⟨_, rfl, rfl, ?_⟩)
              refine ar_cons ?_
              refine ev_cel (by assumption) (.head _) (.tail _ (.tail _ (.tail _ (.tail _ (.head _))))) ?_
              refine ar_nil ?_
              refine .gives (.pick (.tail (.tail .head)) .rfl) ?_
              refine figures_spec (n := n + 2) r' (Nat.le_trans z4 hz) fun x ms5 p5 z5 => ?_
              refine ⟨[some (.int (0 + (i : Int)))], _, .pick (.tail .head) (.pick (.tail .head) .rfl), xs ++ [x], ms5, rfl, ?_, fun z hz => ?_, by omega⟩
              · rw [List.map_append]; rfl
              · rcases List.mem_append.mp hz with hz | hz
                · exact hp4 z hz
                · rw [List.mem_singleton.mp hz]; exact p5
            · obtain ⟨xs, ms4, rfl, rfl, hp4, z4⟩ := hI
              refine ⟨.rng (.head _) hR2, fun a2 => ?_⟩
              rw [List.length_map, range_len] at hl
              refine ar_nil ?_
              have hJ := Pc.joinS hp4
              refine m_join (.head _) ?_ ?_
              · have e1 : (Str.ofString ";").length = 1 := by decide
                have := pc_sum hp4
                rw [e1]; omega
              · have eJ : Txt.join (Str.ofString ";") xs = Str.join (Str.ofString ";") xs := StrLaws.glued_eq_join _ _
                rw [eJ]
                refine o2_pc (pc_lit "\"" 1) hJ (by omega) ?_
                refine ret_is ?_
                refine ⟨_, _, .ret, ?_, h _ ms4 (((pc_lit "\"" 1).app hJ).mono (by omega) (by omega)) z4⟩
                exact (.pick (.tail (.tail .head)) (.tails (.tails (.tails (.tails .rfl)))))
          · refine ex_nil ?_
            refine next_is ?_
            refine ex_if ?_
            refine tr_cmp ?_
            refine ev_loc (by assumption) (.tail _ (.head _)) .head ?_
            refine ev_int ?_
            refine c2_lt ?_
            refine ⟨_, .bool _, ?_⟩
            refine dec_split (fun hc => ?_) (fun hc => ?_)
            · refine ex_ret ?_
              refine ev_sub ?_
              refine ev_str ?_
              refine ev_bin ?_
              refine ev_loc (by assumption) (.tail _ (.head _)) .head ?_
              refine ev_int ?_
              refine o2_sub ?_
              obtain ⟨c, hc1, hp1⟩ := pc_char (pc_lit "$-" 2) (v := way - 8) (by omega) (by show _ < (2 : Int); omega)
              refine gi_str hc1 (by decide) ?_
              refine ret_is ?_
              refine ⟨_, _, .ret, ?_, h _ ms1 (hp1.mono (by decide) (by decide)) z1⟩
              exact (.pick .head (.tails (.tails .rfl)))
            · refine ex_nil ?_
              refine next_is ?_
              refine ex_ret ?_
              refine ev_sub ?_
              refine ev_if ?_
              refine tr_cmp ?_
              refine ev_loc (by assumption) (.tail _ (.head _)) .head ?_
              refine ev_int ?_
              refine c2_eq ?_
              refine ⟨_, .bool _, ?_⟩
              refine dec_split (fun hc => ?_) (fun hc => ?_)
              · refine ev_str ?_
                refine ev_callK (ev_glob (by assumption) (.head _) (gv_next _) ⟨_, rfl, rfl, ?_⟩)
                refine ar_cons ?_
                refine ev_cel (by assumption) (.head _) (.tail _ (.tail _ (.head _))) ?_
                refine ar_cons ?_
                refine ev_int ?_
                refine ar_nil ?_
                refine next_spec (n := n + 4) (many := 4) r' (by decide) (Nat.le_trans z1 hz) fun v ms2 v0 v1 z2 => ?_
                obtain ⟨c, hc1, hp1⟩ := pc_char (pc_lit " %\x7fÈ" 4) v0 v1
                refine gi_str hc1 (by decide) ?_
                refine ⟨_, _, .ret, ?_, h _ ms2 (hp1.mono (by decide) (by decide)) (by omega)⟩
                exact (.pick .head (.tails (.tails .rfl)))
              · refine ev_str ?_
                refine ev_callK (ev_glob (by assumption) (.head _) (gv_next _) ⟨_, rfl, rfl, ?_⟩)
                refine ar_cons ?_
                refine ev_cel (by assumption) (.head _) (.tail _ (.tail _ (.head _))) ?_
                refine ar_cons ?_
                refine ev_int ?_
                refine ar_nil ?_
                refine next_spec (n := n + 4) (many := 4) r' (by decide) (Nat.le_trans z1 hz) fun v ms2 v0 v1 z2 => ?_
                obtain ⟨c, hc1, hp1⟩ := pc_char (pc_lit "3;;7" 4) v0 v1
                refine gi_str hc1 (by decide) ?_
                refine ⟨_, _, .ret, ?_, h _ ms2 (hp1.mono (by decide) (by decide)) (by omega)⟩
                exact (.pick .head (.tails (.tails .rfl)))
end Mine
end
section
open PySem PySem.W PySem.Calls PyProof.Rows
namespace Mine
structure SH where
  column : Int
  band : Int
  times : Int
  colour : Int
  pts : ZP
  told : List (Int × List Int)
  wide : Int
  bands : Int
  size : Int × Int
  asp : Int × Int
  begun : Bool
noncomputable def ptsT (p : ZP) : List (List Int × AV) := p.map fun q => ([q.1.1, q.1.2], .int q.2)
noncomputable abbrev shA (most : Int) (dp dt : Addr) (H : SH) : List (Str × AV) := [(Str.ofString "most", .int most), (Str.ofString "column", .int H.column), (Str.ofString "band", .int H.band), (Str.ofString "times", .int H.times), (Str.ofString "colour", .int H.colour), (Str.ofString "points", .ref dp), (Str.ofString "told", .ref dt),
  (Str.ofString "wide", .int H.wide), (Str.ofString "bands", .int H.bands), (Str.ofString "size", pairA H.size), (Str.ofString "aspect", pairA H.asp), (Str.ofString "begun", .bool H.begun)]
noncomputable abbrev sht (C : Cx) (most : Int) (a dp dt : Addr) (H : SH) (l : List Ent) : List Ent := dicS C a (shA most dp dt H) :: dicT C.w dp (ptsT H.pts) :: dicI C dt (colsA H.told) :: l
noncomputable def rowZ (p : ZP) (r c0 v : Int) : Nat → ZP
  | 0 => p
  | n + 1 => dput (rowZ p r c0 v n) (r, c0 + n) v
noncomputable def bandZ (most top bits col e v : Int) (p : ZP) : Nat → ZP
  | 0 => p
  | b + 1 => if bits / 2 ^ b % 2 = 1 ∧ top + b < most then rowZ (bandZ most top bits col e v p b) (top + b) col v (e - col).toNat else bandZ most top bits col e v p b
theorem rowZ_len (p : ZP) (r c0 v : Int) : ∀ n, (rowZ p r c0 v n).length ≤ p.length + n
  | 0 => Nat.le_refl _
  | n + 1 => by
    have h1 := rowZ_len p r c0 v n
    have h2 := dput_length (rowZ p r c0 v n) (r, c0 + n) v
    show (dput _ _ _).length ≤ _
    omega
theorem bandZ_len {most top bits col e v : Int} (p : ZP) (h : (e - col).toNat ≤ 14) : ∀ b, (bandZ most top bits col e v p b).length ≤ p.length + 14 * b
  | 0 => Nat.le_refl _
  | b + 1 => by
    have h1 := bandZ_len p h (most := most) (top := top) (bits := bits) (v := v) b
    unfold bandZ
    split
    · have h2 := rowZ_len (bandZ most top bits col e v p b) (top + b) col v (e - col).toNat
      omega
    · omega
theorem bandZ_out {most top bits col e v : Int} {p : ZP} {k : Nat} (h : most ≤ top + k) : ∀ j, bandZ most top bits col e v p (k + j) = bandZ most top bits col e v p k
  | 0 => rfl
  | j + 1 => (if_neg (fun q : bits / 2 ^ (k + j) % 2 = 1 ∧ top + ((k + j : Nat) : Int) < most => by have := q.2; omega)).trans (bandZ_out h j)
noncomputable def signI (most : Int) (H : SH) (bits : Int) : SH :=
  if H.column = most ∨ most ≤ 6 * H.band then { H with column := min (H.column + H.times) most, times := 1 }
  else { H with column := min (H.column + H.times) most, times := 1, begun := true, wide := max H.wide (min (H.column + H.times) most), bands := max H.bands (H.band + 1), pts := bandZ most (6 * H.band) bits H.column (min (H.column + H.times) most) H.colour H.pts 6 }
theorem ptsT_put {p : ZP} {r c v : Int} : dput (ptsT p) [r, c] (.int v) = ptsT (dput p (r, c) v) := by
  unfold ptsT dput
  rw [List.any_map]
  have e : ((fun q : List Int × AV => decide (q.1 = [r, c])) ∘ fun q : (Int × Int) × Int => ([q.1.1, q.1.2], AV.int q.2)) = fun q => decide (q.1 = (r, c)) := by
    funext q
    exact decide_eq_decide.mpr ⟨fun h => by have h : [q.1.1, q.1.2] = [r, c] := h; injection h with h1 h2; injection h2 with h2; exact Prod.ext h1 h2, fun h => by show [q.1.1, q.1.2] = [r, c]; rw [h]⟩
  rw [e]
  split
  · rw [List.map_map, List.map_map]
    apply List.map_congr_left
    intro q _
    show (if [q.1.1, q.1.2] = [r, c] then _ else _) = (fun q : (Int × Int) × Int => ([q.1.1, q.1.2], AV.int q.2)) (if q.1 = (r, c) then (q.1, v) else q)
    by_cases h : q.1 = (r, c)
    · rw [if_pos h, if_pos (by rw [h])]
    · rw [if_neg h, if_neg (fun h' => h (by injection h' with h1 h2; injection h2 with h2; exact Prod.ext h1 h2))]
  · rw [List.map_append]; rfl
structure SOk (most : Int) (H : SH) : Prop where
  m1 : 1 ≤ most
  m2 : most ≤ 14
  c0 : 0 ≤ H.column
  c1 : H.column ≤ most
  t0 : 1 ≤ H.times
  t1 : H.times ≤ 32767
  b0 : 0 ≤ H.band
  b1 : H.band ≤ 1000
  p : H.pts.length ≤ 84000
  told : H.told.length ≤ 1000
set_option maxHeartbeats 1000000 in
theorem sign_spec {C : Cx} {A : Around} {n : Nat} {l : List Ent} {most bits : Int} {a dp dt : Addr} {H : SH} {Φ : AV → List Ent → Prop} (r : Room A (n + 3)) (O : SOk most H) (hb : 0 ≤ bits) (hb2 : bits ≤ 1000)
    (h : Φ .none (sht C most a dp dt (signI most H bits) l)) : Wn C A Is (sht C most a dp dt H l) [.ref a, .int bits] (fun vs => call (.ref 178) vs) Φ := by
  have ho : (Kf C).lookup 178 = some _ := rfl
  refine call_plain (fd := _) (body := _) (params := [Str.ofString "sheet", Str.ofString "bits"]) (rest := [Str.ofString "begin", Str.ofString "row", Str.ofString "column"]) (names := [Str.ofString "sheet", Str.ofString "bits", Str.ofString "begin", Str.ofString "row", Str.ofString "column"]) (vals := [some (.ref a), some (.int bits), none, none, none]) (n := n + 2)
    ⟨⟨_, C.kin _ _ ho, rfl⟩, codeRec_of C.kin rfl, rfl, rfl, rfl, rfl, rfl, rfl, rfl⟩ r (fun s vs _ hl => ?_) rfl rfl rfl (by decide) rfl rfl fun env E r' => ?_
  · obtain ⟨x, y, rfl⟩ := len2 hl
    exact .of_eq rfl
  · clear ho
    have hT := E.loc (names := [Str.ofString "sheet", Str.ofString "bits", Str.ofString "begin", Str.ofString "row", Str.ofString "column"]) rfl rfl
    have hG := E.glob (names := [Str.ofString "min", Str.ofString "max", Str.ofString "range"]) rfl rfl
    obtain ⟨m1, m2, c0, c1, t0, t1, b0, b1, hp, ht⟩ := O
    refine ex_assign ?_
    refine ev_sub ?_
    refine ev_loc (by assumption) (.head _) .head ?_
    refine ev_str ?_
    refine gi_dicS (.tail _ (.head _)) ((.tail .head)) ?_
    refine st_loc (by assumption) (.head) ((.tail (.tail .head))) ?_
    refine ex_sub ?_
    refine ev_callB (ev_glob (by assumption) (.head _) (gv_min _) ⟨_, rfl, ?_⟩)
    refine ar_cons ?_
    refine ev_bin ?_
    refine ev_loc (by assumption) (.head _) (.tail (.tail .head)) ?_
    refine ev_sub ?_
    refine ev_loc (by assumption) (.head _) .head ?_
    refine ev_str ?_
    refine gi_dicS (.tail _ (.head _)) ((.tail (.tail (.tail .head)))) ?_
    refine o2_add ?_
    refine ar_cons ?_
    refine ev_sub ?_
    refine ev_loc (by assumption) (.head _) .head ?_
    refine ev_str ?_
    refine gi_dicS (.tail _ (.head _)) (.head) ?_
    refine ar_nil ?_
    refine b_min (by assumption) ?_
    refine ev_loc (by assumption) (.head _) .head ?_
    refine ev_str ?_
    refine si_dicS ((.tail .head)) ((.tail .head)) (Nat.le_of_ble_eq_true rfl) ?_
    refine ex_sub ?_
    refine ev_int ?_
    refine ev_loc (by assumption) (.head _) .head ?_
    refine ev_str ?_
    refine si_dicS ((.tail .head)) ((.tail (.tail (.tail .head)))) (Nat.le_of_ble_eq_true rfl) ?_
    refine ex_if ?_
    refine tr_is (p := H.column = most ∨ most ≤ 6 * H.band) ?_ ?_
    · refine tr_or ?_
      refine tr_cmp ?_
      refine ev_loc (by assumption) (.head _) (.tail (.tail .head)) ?_
      refine ev_sub ?_
      refine ev_loc (by assumption) (.head _) .head ?_
      refine ev_str ?_
      refine gi_dicS (.tail _ (.head _)) (.head) ?_
      refine c2_eq ?_
      refine ⟨_, .bool _, ?_⟩
      refine dec_split (fun hc => ?_) (fun hc => ?_)
      · exact ⟨(decide_eq_true (.inl (by assumption))).symm, rfl⟩
      · refine tr_or ?_
        refine tr_cmp ?_
        refine ev_bin ?_
        refine ev_int ?_
        refine ev_sub ?_
        refine ev_loc (by assumption) (.head _) .head ?_
        refine ev_str ?_
        refine gi_dicS (.tail _ (.head _)) ((.tail (.tail .head))) ?_
        refine o2_mul (mulOk (by omega) (by omega)) ?_
        refine ev_sub ?_
        refine ev_loc (by assumption) (.head _) .head ?_
        refine ev_str ?_
        refine gi_dicS (.tail _ (.head _)) (.head) ?_
        refine c2_ge ?_
        refine ⟨_, .bool _, ?_⟩
        refine dec_split (fun hc => ?_) (fun hc => ?_)
        · exact ⟨(decide_eq_true (.inr (by assumption))).symm, rfl⟩
        · refine tr_or_nil ?_
          exact ⟨(decide_eq_false fun q => q.elim (by assumption) (by assumption)).symm, rfl⟩
    refine dec_split (fun hc => ?_) (fun hc => ?_)
    · refine ex_ret0 ?_
      refine ret_is ?_
      rw [show signI most H bits = _ from if_pos hc] at h
      refine ⟨_, _, .ret, ?_, h⟩
      exact (.pick (.tail .head) (.pick (.tail .head) (.pick (.tail .head) (.tails .rfl))))
    · rw [show signI most H bits = _ from if_neg hc] at h
      have hn : (min (H.column + H.times) most - H.column).toNat ≤ 14 := by omega
      refine ex_nil ?_
      refine next_is ?_
      refine ex_tup ?_ ?_
      rotate_left
      · obtain ⟨e1, e2, e3, e4⟩ := E
        obtain ⟨sc, L, G, B, Ce, Co, Fr⟩ := env
        dsimp only at e1
        subst e1
        rfl
      refine ev_tup ?_
      refine ar_cons ?_
      refine ev_bool ?_
      refine ar_cons ?_
      refine ev_callB (ev_glob (by assumption) (.tail _ (.head _)) (gv_max _) ⟨_, rfl, ?_⟩)
      refine ar_cons ?_
      refine ev_sub ?_
      refine ev_loc (by assumption) (.head _) .head ?_
      refine ev_str ?_
      refine gi_dicS (.tail _ (.head _)) ((.tail (.tail (.tail (.tail (.tail (.tail (.tail .head)))))))) ?_
      refine ar_cons ?_
      refine ev_sub ?_
      refine ev_loc (by assumption) (.head _) .head ?_
      refine ev_str ?_
      refine gi_dicS (.tail _ (.head _)) ((.tail .head)) ?_
      refine ar_nil ?_
      refine b_max (by assumption) ?_
      refine ar_nil ?_
      refine ⟨Nat.le_of_ble_eq_true rfl, ?_⟩
      refine as_tup (by assumption) ?_
      refine in_cons ?_
      refine as_sub ?_
      refine ev_loc (by assumption) (.head _) .head ?_
      refine ev_str ?_
      refine si_dicS ((.tail .head)) ((.tail (.tail (.tail (.tail (.tail (.tail (.tail (.tail (.tail (.tail (.tail .head)))))))))))) (Nat.le_of_ble_eq_true rfl) ?_
      refine in_cons ?_
      refine as_sub ?_
      refine ev_loc (by assumption) (.head _) .head ?_
      refine ev_str ?_
      refine si_dicS ((.tail .head)) ((.tail (.tail (.tail (.tail (.tail (.tail (.tail .head)))))))) (Nat.le_of_ble_eq_true rfl) ?_
      refine in_nil ?_
      refine ex_sub ?_
      refine ev_callB (ev_glob (by assumption) (.tail _ (.head _)) (gv_max _) ⟨_, rfl, ?_⟩)
      refine ar_cons ?_
      refine ev_sub ?_
      refine ev_loc (by assumption) (.head _) .head ?_
      refine ev_str ?_
      refine gi_dicS (.tail _ (.head _)) ((.tail (.tail (.tail (.tail (.tail (.tail (.tail (.tail .head))))))))) ?_
      refine ar_cons ?_
      refine ev_bin ?_
      refine ev_sub ?_
      refine ev_loc (by assumption) (.head _) .head ?_
      refine ev_str ?_
      refine gi_dicS (.tail _ (.head _)) ((.tail (.tail .head))) ?_
      refine ev_int ?_
      refine o2_add ?_
      refine ar_nil ?_
      refine b_max (by assumption) ?_
      refine ev_loc (by assumption) (.head _) .head ?_
      refine ev_str ?_
      refine si_dicS ((.tail .head)) ((.tail (.tail (.tail (.tail (.tail (.tail (.tail (.tail .head))))))))) (Nat.le_of_ble_eq_true rfl) ?_
      refine ex_for r' ?_
      refine ev_callT (ev_glob (by assumption) (.tail _ (.tail _ (.head _))) (gv_range _) ⟨_, rfl, ?_⟩)
      refine ar_cons ?_
      refine ev_bin ?_
      refine ev_int ?_
      refine ev_sub ?_
      refine ev_loc (by assumption) (.head _) .head ?_
      refine ev_str ?_
      refine gi_dicS (.tail _ (.head _)) ((.tail (.tail .head))) ?_
      refine o2_mul (mulOk (by omega) (by omega)) ?_
      refine ar_cons ?_
      refine ev_callB (ev_glob (by assumption) (.head _) (gv_min _) ⟨_, rfl, ?_⟩)
      refine ar_cons ?_
      refine ev_bin ?_
      refine ev_bin ?_
      refine ev_int ?_
      refine ev_sub ?_
      refine ev_loc (by assumption) (.head _) .head ?_
      refine ev_str ?_
      refine gi_dicS (.tail _ (.head _)) ((.tail (.tail .head))) ?_
      refine o2_mul (mulOk (by omega) (by omega)) ?_
      refine ev_int ?_
      refine o2_add ?_
      refine ar_cons ?_
      refine ev_sub ?_
      refine ev_loc (by assumption) (.head _) .head ?_
      refine ev_str ?_
      refine gi_dicS (.tail _ (.head _)) (.head) ?_
      refine ar_nil ?_
      refine b_min (by assumption) ?_
      refine ar_nil ?_
      refine b_range2 fun rr => ?_
      have hR1 : RB (6 * H.band) (min (6 * H.band + 6) most) := ⟨by omega, by omega, by omega, by omega⟩
      refine ⟨_, _, fun i l' => ∃ vb vc, l' = rng rr (6 * H.band) (min (6 * H.band + 6) most) :: ns env.locals [Str.ofString "sheet", Str.ofString "bits", Str.ofString "begin", Str.ofString "row", Str.ofString "column"] [some (.ref a), some (.int bits), some (.int H.column), vb, vc] :: sht C most a dp dt { H with column := min (H.column + H.times) most, times := 1, begun := true, wide := max H.wide (min (H.column + H.times) most), bands := max H.bands (H.band + 1), pts := bandZ most (6 * H.band) bits H.column (min (H.column + H.times) most) H.colour H.pts i } l,
        .rng (.head _) hR1, ⟨none, none, rfl⟩, fun i y l' hy hI => ?_, fun l' hI => ?_⟩
      · obtain ⟨vb, vc, rfl⟩ := hI
        obtain ⟨hi, rfl⟩ := range_at hy
        refine ⟨.rng (.head _) hR1, ?_⟩
        refine as_name ?_
        refine st_loc (by assumption) ((.tail .head)) ((.tail (.tail (.tail .head)))) ?_
        obtain ⟨r0, hr0⟩ : ∃ q, q = rr := ⟨_, rfl⟩
        subst hr0
        have hi6 : i < 6 := by omega
        have hrow : 6 * H.band + (i : Int) < most := by omega
        refine ex_for r' ?_
        refine ev_callT (ev_glob (by assumption) (.tail _ (.tail _ (.head _))) (gv_range _) ⟨_, rfl, ?_⟩)
        refine ar_cons ?_
        refine ev_loc (by assumption) (.tail _ (.head _)) (.tail (.tail .head)) ?_
        refine ar_cons ?_
        refine ev_sub ?_
        refine ev_loc (by assumption) (.tail _ (.head _)) .head ?_
        refine ev_str ?_
        refine gi_dicS (.tail _ (.tail _ (.head _))) ((.tail .head)) ?_
        refine ar_nil ?_
        refine b_range2 fun rr => ?_
        dsimp only
        generalize hP : bandZ most (6 * H.band) bits H.column (min (H.column + H.times) most) H.colour H.pts i = P
        have hPl : P.length ≤ 84070 := by
          have := bandZ_len (most := most) (top := 6 * H.band) (bits := bits) (v := H.colour) H.pts hn i
          rw [hP] at this; omega
        have hR2 : RB H.column (min (H.column + H.times) most) := ⟨by omega, by omega, by omega, by omega⟩
        refine ⟨_, _, fun j l' => ∃ vc, l' = rng rr H.column (min (H.column + H.times) most) :: rng r0 (6 * H.band) (min (6 * H.band + 6) most) :: ns env.locals [Str.ofString "sheet", Str.ofString "bits", Str.ofString "begin", Str.ofString "row", Str.ofString "column"] [some (.ref a), some (.int bits), some (.int H.column), some (.int (6 * H.band + i)), vc] :: sht C most a dp dt { H with column := min (H.column + H.times) most, times := 1, begun := true, wide := max H.wide (min (H.column + H.times) most), bands := max H.bands (H.band + 1), pts := if bits / 2 ^ i % 2 = 1 then rowZ P (6 * H.band + i) H.column H.colour j else P } l,
          .rng (.head _) hR2, ⟨vc, by split <;> rfl⟩, fun j y l' hy hI => ?_, fun l' hI => ?_⟩
        · obtain ⟨vc, rfl⟩ := hI
          obtain ⟨hj, rfl⟩ := range_at hy
          refine ⟨.rng (.head _) hR2, ?_⟩
          refine as_name ?_
          refine st_loc (by assumption) ((.tail (.tail .head))) ((.tail (.tail (.tail (.tail .head))))) ?_
          refine ex_if ?_
          refine tr_cmp ?_
          refine ev_bin ?_
          refine ev_bin ?_
          refine ev_loc (by assumption) (.tail _ (.tail _ (.head _))) (.tail .head) ?_
          refine ev_bin ?_
          refine ev_int ?_
          refine ev_bin ?_
          refine ev_loc (by assumption) (.tail _ (.tail _ (.head _))) (.tail (.tail (.tail .head))) ?_
          refine ev_int ?_
          refine o2_mod (by omega) ?_
          refine o2_pow (by omega) (by omega) (by decide) ?_
          rw [show ((6 * H.band + (i : Int)) % 6).toNat = i by omega]
          have hpw : (0 : Int) < 2 ^ i := Int.pow_pos (by decide)
          have hpw2 : (2 : Int) ^ i ≤ 32 := by
            have : i = 0 ∨ i = 1 ∨ i = 2 ∨ i = 3 ∨ i = 4 ∨ i = 5 := by omega
            rcases this with rfl | rfl | rfl | rfl | rfl | rfl <;> decide
          refine o2_div (by omega) hpw (by omega) ?_
          refine ev_int ?_
          refine o2_mod (by omega) ?_
          refine ev_int ?_
          refine c2_eq ?_
          refine ⟨_, .bool _, ?_⟩
          refine dec_split (fun hc => ?_) (fun hc => ?_)
          · have hb1 : bits / 2 ^ i % 2 = 1 := by assumption
            rw [if_pos hb1]
            refine ex_sub ?_
            refine ev_sub ?_
            refine ev_loc (by assumption) (.tail _ (.tail _ (.head _))) .head ?_
            refine ev_str ?_
            refine gi_dicS (.tail _ (.tail _ (.tail _ (.head _)))) ((.tail (.tail (.tail (.tail .head))))) ?_
            refine ev_sub ?_
            refine ev_loc (by assumption) (.tail _ (.tail _ (.head _))) .head ?_
            refine ev_str ?_
            refine gi_dicS (.tail _ (.tail _ (.tail _ (.head _)))) ((.tail (.tail (.tail (.tail (.tail .head)))))) ?_
            refine ev_tup ?_
            refine ar_cons ?_
            refine ev_loc (by assumption) (.tail _ (.tail _ (.head _))) (.tail (.tail (.tail .head))) ?_
            refine ar_cons ?_
            refine ev_loc (by assumption) (.tail _ (.tail _ (.head _))) (.tail (.tail (.tail (.tail .head)))) ?_
            refine ar_nil ?_
            refine ⟨Nat.le_of_ble_eq_true rfl, ?_⟩
            refine si_dicT (k := [6 * H.band + i, H.column + j]) r' (.tail (.tail (.tail (.tail .head)))) rfl ?_ ?_
            · have := rowZ_len P (6 * H.band + i) H.column H.colour j
              unfold ptsT; rw [List.length_map]
              dsimp only
              omega
            refine ex_nil ?_
            refine next_is ?_
            refine ex_nil ?_
            refine .inl ⟨rfl, some (.int (H.column + j)), ?_⟩
            rw [ptsT_put, if_pos hb1]
            rfl
          · have hb1 : ¬ bits / 2 ^ i % 2 = 1 := by assumption
            refine ex_nil ?_
            refine next_is ?_
            refine ex_nil ?_
            refine .inl ⟨rfl, some (.int (H.column + j)), ?_⟩
            rw [if_neg hb1, if_neg hb1]
        · obtain ⟨vc, rfl⟩ := hI
          refine ⟨.rng (.head _) hR2, ?_⟩
          rw [range_len]
          refine .gives (.tails .rfl) ?_
          refine ex_nil ?_
          refine .inl ⟨rfl, some (.int (6 * H.band + i)), vc, ?_⟩
          have e : bandZ most (6 * H.band) bits H.column (min (H.column + H.times) most) H.colour H.pts (i + 1) = if bits / 2 ^ i % 2 = 1 then rowZ P (6 * H.band + i) H.column H.colour (min (H.column + H.times) most - H.column).toNat else P := by
            show (if _ then _ else _) = _
            rw [hP]
            by_cases hb1 : bits / 2 ^ i % 2 = 1
            · rw [if_pos hb1, if_pos ⟨hb1, hrow⟩]
            · rw [if_neg hb1, if_neg fun q => hb1 q.1]
          rw [e]
      · obtain ⟨vb, vc, rfl⟩ := hI
        refine ⟨.rng (.head _) hR1, ?_⟩
        rw [range_len]
        refine ex_nil ?_
        have e : bandZ most (6 * H.band) bits H.column (min (H.column + H.times) most) H.colour H.pts 6 = bandZ most (6 * H.band) bits H.column (min (H.column + H.times) most) H.colour H.pts (min (6 * H.band + 6) most - 6 * H.band).toNat := by
          have q := bandZ_out (most := most) (top := 6 * H.band) (bits := bits) (col := H.column) (e := min (H.column + H.times) most) (v := H.colour) (p := H.pts) (k := (min (6 * H.band + 6) most - 6 * H.band).toNat)
          by_cases hq : 6 * H.band + 6 ≤ most
          · rw [show (min (6 * H.band + 6) most - 6 * H.band).toNat = 6 by omega]
          · have q2 := q (by omega) (6 - (min (6 * H.band + 6) most - 6 * H.band).toNat)
            rw [show (min (6 * H.band + 6) most - 6 * H.band).toNat + (6 - (min (6 * H.band + 6) most - 6 * H.band).toNat) = 6 by omega] at q2
            exact q2
        rw [e] at h
        refine ⟨_, _, .next, ?_, h⟩
        exact (.pick (.tail (.tail .head)) (.pick (.tail (.tail .head)) (.pick (.tail (.tail .head)) (.tails (.tails .rfl)))))
end Mine
end
section
open PySem PySem.W PySem.Calls PyProof.Rows
namespace Mine
theorem pair_at {f : PH} {p : Int × Int} {v : Value} (h : Is f (pairA p) v) : ∃ a t u m, v = .ref a ∧ f a = some { cls := .type "tuple", data := .seq #[.int p.1 t, .int p.2 u] m } := by
  obtain ⟨a, vs, m, rfl, ho, hi⟩ := h.tupE
  obtain ⟨x, y, rfl⟩ := len2 (vs := vs) hi.length
  cases hi with
  | cons h1 hi => cases hi with
    | cons h2 hi =>
      obtain ⟨t, rfl⟩ := h1.intE
      obtain ⟨u, rfl⟩ := h2.intE
      exact ⟨a, t, u, m, rfl, ho⟩
theorem pair_all {p q : Int × Int} : (List.range 2).all (fun j => if j = 0 then p.1 == q.1 else p.2 == q.2) = decide (p = q) := by
  have e : List.range 2 = [0, 1] := rfl
  rw [e]
  show ((if (0 : Nat) = 0 then p.1 == q.1 else p.2 == q.2) && ((if (1 : Nat) = 0 then p.1 == q.1 else p.2 == q.2) && true)) = _
  rw [if_pos rfl, if_neg (by decide), Bool.and_true]
  obtain ⟨a, b⟩ := p
  obtain ⟨c, d⟩ := q
  rw [Bool.eq_iff_iff]
  simp
section
variable {C : Cx} {A : Around} {n : Nat} {l : List Ent}
theorem c2_eq_pair {p q : Int × Int} {Φ : AV → List Ent → Prop} (r : Room A n) (h : Φ (.bool (decide (p = q))) l) : W2 C A Is l (pairA p) (pairA q) (compareOp .Eq) Φ := fun R f s v y S hv hy => by
  obtain ⟨a, t, u, m, rfl, ho⟩ := pair_at hv
  obtain ⟨b, t', u', m', rfl, ho'⟩ := pair_at hy
  have hu : A.units < cLine := r.line
  refine SeqAt.eq_tupleAt (e := fun j => if j = 0 then p.1 == q.1 else p.2 == q.2) ⟨_, S.live _ _ ho, rfl, m, rfl⟩ ⟨_, S.live _ _ ho', rfl, m', rfl⟩ hu (fun j h1 h2 => ?_) ?_
  · have hj : j = 0 ∨ j = 1 := by have : j < 2 := h1; omega
    rcases hj with rfl | rfl
    · exact SeqAt.EqAt.int_int (A := A.in1) (s := s) p.1 t q.1 t'
    · exact SeqAt.EqAt.int_int (A := A.in1) (s := s) p.2 u q.2 u'
  · refine post (.refl f) S (.bool _) ?_
    show Φ (.bool ((List.range 2).all (fun j => if j = 0 then p.1 == q.1 else p.2 == q.2) && ((2 : Nat) == 2))) l
    rw [pair_all, show ((2 : Nat) == 2) = true from rfl, Bool.and_true]
    exact h
theorem c2_ne_pair {p q : Int × Int} {Φ : AV → List Ent → Prop} (r : Room A n) (h : Φ (.bool (decide (p ≠ q))) l) : W2 C A Is l (pairA p) (pairA q) (compareOp .NotEq) Φ := fun R f s v y S hv hy => by
  obtain ⟨a, t, u, m, rfl, ho⟩ := pair_at hv
  obtain ⟨b, t', u', m', rfl, ho'⟩ := pair_at hy
  have hu : A.units < cLine := r.line
  refine SeqAt.RcNeAt.tuples (A := A) (s := s) (e := fun j => if j = 0 then p.1 == q.1 else p.2 == q.2) ⟨_, S.live _ _ ho, rfl, m, rfl⟩ ⟨_, S.live _ _ ho', rfl, m', rfl⟩ hu (fun j h1 h2 => ?_) _ _ _ _ ?_
  · have hj : j = 0 ∨ j = 1 := by have : j < 2 := h1; omega
    rcases hj with rfl | rfl
    · exact SeqAt.EqAt.int_int (A := A.in1) (s := s) p.1 t q.1 t'
    · exact SeqAt.EqAt.int_int (A := A.in1) (s := s) p.2 u q.2 u'
  · refine post (.refl f) S (.bool _) ?_
    show Φ (.bool (!((List.range 2).all (fun j => if j = 0 then p.1 == q.1 else p.2 == q.2) && ((2 : Nat) == 2)))) l
    rw [pair_all, show ((2 : Nat) == 2) = true from rfl, Bool.and_true, ← decide_not]
    exact h
end
noncomputable def tellZ (t : List (Int × List Int)) (k : Int) (ts : List Int) (many : Int) : List (Int × List Int) :=
  if many > 1 ∧ n0 ts 1 = 1 then dput t k (hueI (n0 ts 2 % 360) (min (n0 ts 3) 100) (min (n0 ts 4) 100))
  else if many > 1 ∧ n0 ts 1 = 2 then dput t k [min (n0 ts 2) 100, min (n0 ts 3) 100, min (n0 ts 4) 100] else t
noncomputable def commandI (most : Int) (H : SH) (c : Nat) (ts : List Int) (many : Int) : SH :=
  if c = 33 then { H with times := max 1 (n0 ts 0) }
  else if c = 35 then { H with colour := n0 ts 0 % 256, told := tellZ H.told (n0 ts 0 % 256) ts many }
  else if H.begun = false ∧ H.size = (0, 0) then { H with asp := (max 1 (n0 ts 0), max 1 (n0 ts 1)), size := (min (n0 ts 2) most, min (n0 ts 3) most) }
  else H
theorem at_n0 {ts : List Int} {i : Nat} (h : i < ts.length) : At (ts.map AV.int) (i : Int) (.int (n0 ts i)) := by
  refine .pos (Int.natCast_nonneg _) ?_
  rw [Int.toNat_natCast, List.getElem?_map, List.getElem?_eq_getElem h]
  unfold n0
  rw [List.getD_eq_getElem?_getD, List.getElem?_eq_getElem h]; rfl
theorem mid3 {ts : List Int} (h : 8 ≤ ts.length) : lpick (ts.map AV.int) (some 2) (some 5) = [n0 ts 2, n0 ts 3, n0 ts 4].map AV.int := by
  unfold lpick
  show ((ts.map AV.int).take 5).drop 2 = _
  rw [← List.map_take, ← List.map_drop]
  congr 1
  apply List.ext_getElem?
  intro j
  rw [List.getElem?_drop, List.getElem?_take]
  have e : ∀ i, i < ts.length → ts[i]? = some (n0 ts i) := fun i hi => by unfold n0; rw [List.getD_eq_getElem?_getD, List.getElem?_eq_getElem hi]; rfl
  have hj : j = 0 ∨ j = 1 ∨ j = 2 ∨ 3 ≤ j := by omega
  rcases hj with rfl | rfl | rfl | hj
  · rw [if_pos (by decide), e 2 (by omega)]; rfl
  · rw [if_pos (by decide), e 3 (by omega)]; rfl
  · rw [if_pos (by decide), e 4 (by omega)]; rfl
  · rw [if_neg (by omega), List.getElem?_eq_none (by exact hj)]
set_option maxHeartbeats 1000000 in
theorem command_spec {C : Cx} {A : Around} {n : Nat} {l : List Ent} {most many : Int} {a dp dt tl : Addr} {c : Nat} {ts : List Int} {H : SH} {Φ : AV → List Ent → Prop} (r : Room A (n + 6)) (O : SOk most H) (ht : 8 ≤ ts.length ∧ ts.length ≤ 100) (hp : ∀ x ∈ ts, 0 ≤ x ∧ x ≤ 32767)
    (hm : lst tl (ts.map .int) ∈ l) (h : Φ .none (sht C most a dp dt (commandI most H c ts many) l)) : Wn C A Is (sht C most a dp dt H l) [.ref a, .str ⟨#[c]⟩, .ref tl, .int many] (fun vs => call (.ref 183) vs) Φ := by
  have ho : (Kf C).lookup 183 = some _ := rfl
  refine call_plain (fd := _) (body := _) (params := [Str.ofString "sheet", Str.ofString "word", Str.ofString "told", Str.ofString "many"]) (rest := []) (names := [Str.ofString "sheet", Str.ofString "word", Str.ofString "told", Str.ofString "many"]) (vals := [some (.ref a), some (.str ⟨#[c]⟩), some (.ref tl), some (.int many)]) (n := n + 5)
    ⟨⟨_, C.kin _ _ ho, rfl⟩, codeRec_of C.kin rfl, rfl, rfl, rfl, rfl, rfl, rfl, rfl⟩ r (fun s vs _ hl => ?_) rfl rfl rfl (by decide) rfl rfl fun env E r' => ?_
  · obtain ⟨x, y, z, u, rfl⟩ := len4 hl
    exact .of_eq rfl
  · clear ho
    have hT := E.loc (names := [Str.ofString "sheet", Str.ofString "word", Str.ofString "told", Str.ofString "many"]) rfl rfl
    have hG := E.glob (names := [Str.ofString "max", Str.ofString "sixel_parts_of_hue", Str.ofString "min", Str.ofString "tuple"]) rfl rfl
    have hzc : (colsA H.told).length ≤ 100000 := by have := O.told; rw [show (colsA H.told).length = H.told.length from List.length_map ..]; omega
    have hz : (ts.map AV.int).length ≤ 100000 := by rw [List.length_map]; omega
    have hm' : lst tl (ts.map .int) ∈ ns env.locals [Str.ofString "sheet", Str.ofString "word", Str.ofString "told", Str.ofString "many"] [some (.ref a), some (.str ⟨#[c]⟩), some (.ref tl), some (.int many)] :: sht C most a dp dt H l := .tail _ (.tail _ (.tail _ (.tail _ hm)))
    have t0 := n0_pos hp 0
    have t2 := n0_pos hp 2
    have t3 := n0_pos hp 3
    have t4 := n0_pos hp 4
    have a0 : At (ts.map AV.int) 0 (.int (n0 ts 0)) := at_n0 (i := 0) (by omega)
    have a1 : At (ts.map AV.int) 1 (.int (n0 ts 1)) := at_n0 (i := 1) (by omega)
    have a2 : At (ts.map AV.int) 2 (.int (n0 ts 2)) := at_n0 (i := 2) (by omega)
    have a3 : At (ts.map AV.int) 3 (.int (n0 ts 3)) := at_n0 (i := 3) (by omega)
    have a4 : At (ts.map AV.int) 4 (.int (n0 ts 4)) := at_n0 (i := 4) (by omega)
    have one : ∀ d : Nat, decide ((⟨#[c]⟩ : Str) = ⟨#[d]⟩) = decide (c = d) := fun d => decide_eq_decide.mpr ⟨fun q => by injection q with q; injection q with q; injection q, fun q => by rw [q]⟩
    refine ex_if ?_
    refine tr_cmp ?_
    refine ev_loc (by assumption) (.head _) (.tail .head) ?_
    refine ev_str ?_
    refine c2_str_eq ?_
    refine ⟨_, .bool _, ?_⟩
    refine dec_split (fun hc => ?_) (fun hc => ?_)
    · have hc1 : c = 33 := by
        have q : (⟨#[c]⟩ : Str) = Str.ofString "!" := hc
        have q2 := one 33
        rw [decide_eq_true (show (⟨#[c]⟩ : Str) = ⟨#[33]⟩ from q)] at q2
        exact of_decide_eq_true q2.symm
      rw [show commandI most H c ts many = _ from if_pos hc1] at h
      refine ex_sub ?_
      refine ev_callB (ev_glob (by assumption) (.head _) (gv_max _) ⟨_, rfl, ?_⟩)
      refine ar_cons ?_
      refine ev_int ?_
      refine ar_cons ?_
      refine ev_sub ?_
      refine ev_loc (by assumption) (.head _) (.tail (.tail .head)) ?_
      refine ev_int ?_
      refine gi_list hm' a0 hz ?_
      refine ar_nil ?_
      refine b_max (by assumption) ?_
      refine ev_loc (by assumption) (.head _) .head ?_
      refine ev_str ?_
      refine si_dicS ((.tail .head)) ((.tail (.tail (.tail .head)))) (Nat.le_of_ble_eq_true rfl) ?_
      refine ex_nil ?_
      refine next_is ?_
      refine ex_nil ?_
      refine ⟨_, _, .next, ?_, h⟩
      exact (.pick (.tail .head) (.pick (.tail .head) (.pick (.tail .head) (.tails .rfl))))
    · have hc1 : ¬ c = 33 := fun q => hc (by rw [q]; rfl)
      refine ex_if ?_
      refine tr_cmp ?_
      refine ev_loc (by assumption) (.head _) (.tail .head) ?_
      refine ev_str ?_
      refine c2_str_eq ?_
      refine ⟨_, .bool _, ?_⟩
      refine dec_split (fun hc => ?_) (fun hc => ?_)
      · have hc2 : c = 35 := by
          have q2 := one 35
          rw [decide_eq_true (show (⟨#[c]⟩ : Str) = ⟨#[35]⟩ by assumption)] at q2
          exact of_decide_eq_true q2.symm
        rw [show commandI most H c ts many = _ from (if_neg hc1).trans (if_pos hc2)] at h
        refine ex_sub ?_
        refine ev_bin ?_
        refine ev_sub ?_
        refine ev_loc (by assumption) (.head _) (.tail (.tail .head)) ?_
        refine ev_int ?_
        refine gi_list (.tail _ (.tail _ (.tail _ (.tail _ hm)))) a0 hz ?_
        refine ev_int ?_
        refine o2_mod (by omega) ?_
        refine ev_loc (by assumption) (.head _) .head ?_
        refine ev_str ?_
        refine si_dicS ((.tail .head)) ((.tail (.tail (.tail (.tail .head))))) (Nat.le_of_ble_eq_true rfl) ?_
        refine ex_if ?_
        refine tr_is (p := many > 1 ∧ n0 ts 1 = 1) ?_ ?_
        · refine tr_and ?_
          refine tr_cmp ?_
          refine ev_loc (by assumption) (.head _) (.tail (.tail (.tail .head))) ?_
          refine ev_int ?_
          refine c2_gt ?_
          refine ⟨_, .bool _, ?_⟩
          refine dec_split (fun hc => ?_) (fun hc => ?_)
          · refine tr_and ?_
            refine tr_cmp ?_
            refine ev_sub ?_
            refine ev_loc (by assumption) (.head _) (.tail (.tail .head)) ?_
            refine ev_int ?_
            refine gi_list (.tail _ (.tail _ (.tail _ (.tail _ hm)))) a1 hz ?_
            refine ev_int ?_
            refine c2_eq ?_
            refine ⟨_, .bool _, ?_⟩
            refine dec_split (fun hc => ?_) (fun hc => ?_)
            · refine tr_and_nil ?_
              exact ⟨(decide_eq_true ⟨by assumption, by assumption⟩).symm, rfl⟩
            · exact ⟨(decide_eq_false fun q => absurd q.2 (by assumption)).symm, rfl⟩
          · exact ⟨(decide_eq_false fun q => absurd q.1 (by assumption)).symm, rfl⟩
        refine dec_split (fun hw => ?_) (fun hw => ?_)
        · rw [show tellZ H.told (n0 ts 0 % 256) ts many = _ from if_pos hw] at h
          refine ex_sub ?_
          refine ev_callK (ev_glob (by assumption) (.tail _ (.head _)) (gv_hue _) ⟨_, rfl, rfl, ?_⟩)
          refine ar_cons ?_
          refine ev_bin ?_
          refine ev_sub ?_
          refine ev_loc (by assumption) (.head _) (.tail (.tail .head)) ?_
          refine ev_int ?_
          refine gi_list (.tail _ (.tail _ (.tail _ (.tail _ hm)))) a2 hz ?_
          refine ev_int ?_
          refine o2_mod (by omega) ?_
          refine ar_cons ?_
          refine ev_callB (ev_glob (by assumption) (.tail _ (.tail _ (.head _))) (gv_min _) ⟨_, rfl, ?_⟩)
          refine ar_cons ?_
          refine ev_sub ?_
          refine ev_loc (by assumption) (.head _) (.tail (.tail .head)) ?_
          refine ev_int ?_
          refine gi_list (.tail _ (.tail _ (.tail _ (.tail _ hm)))) a3 hz ?_
          refine ar_cons ?_
          refine ev_int ?_
          refine ar_nil ?_
          refine b_min (by assumption) ?_
          refine ar_cons ?_
          refine ev_callB (ev_glob (by assumption) (.tail _ (.tail _ (.head _))) (gv_min _) ⟨_, rfl, ?_⟩)
          refine ar_cons ?_
          refine ev_sub ?_
          refine ev_loc (by assumption) (.head _) (.tail (.tail .head)) ?_
          refine ev_int ?_
          refine gi_list (.tail _ (.tail _ (.tail _ (.tail _ hm)))) a4 hz ?_
          refine ar_cons ?_
          refine ev_int ?_
          refine ar_nil ?_
          refine b_min (by assumption) ?_
          refine ar_nil ?_
          refine hue_spec (n := n + 2) r' (by omega) (by omega) (by omega) (by omega) ?_
          refine ev_sub ?_
          refine ev_loc (by assumption) (.head _) .head ?_
          refine ev_str ?_
          refine gi_dicS (.tail _ (.head _)) ((.tail (.tail (.tail (.tail (.tail (.tail .head))))))) ?_
          refine ev_bin ?_
          refine ev_sub ?_
          refine ev_loc (by assumption) (.head _) (.tail (.tail .head)) ?_
          refine ev_int ?_
          refine gi_list (.tail _ (.tail _ (.tail _ (.tail _ hm)))) a0 hz ?_
          refine ev_int ?_
          refine o2_mod (by omega) ?_
          refine si_dict (.tail (.tail (.tail .head))) (keyI _) hzc ?_
          rw [show dput (colsA H.told) (n0 ts 0 % 256) (triA (hueI (n0 ts 2 % 360) (min (n0 ts 3) 100) (min (n0 ts 4) 100))) = colsA (dput H.told (n0 ts 0 % 256) (hueI (n0 ts 2 % 360) (min (n0 ts 3) 100) (min (n0 ts 4) 100))) from dput_map triA ..]
          refine ex_nil ?_
          refine next_is ?_
          refine ex_nil ?_
          refine next_is ?_
          refine ex_nil ?_
          refine next_is ?_
          refine ex_nil ?_
          refine ⟨_, _, .next, ?_, h⟩
          exact (.pick (.tail .head) (.pick (.tail .head) (.pick (.tail .head) (.tails .rfl))))
        · refine ex_if ?_
          refine tr_is (p := many > 1 ∧ n0 ts 1 = 2) ?_ ?_
          · refine tr_and ?_
            refine tr_cmp ?_
            refine ev_loc (by assumption) (.head _) (.tail (.tail (.tail .head))) ?_
            refine ev_int ?_
            refine c2_gt ?_
            refine ⟨_, .bool _, ?_⟩
            refine dec_split (fun hc => ?_) (fun hc => ?_)
            · refine tr_and ?_
              refine tr_cmp ?_
              refine ev_sub ?_
              refine ev_loc (by assumption) (.head _) (.tail (.tail .head)) ?_
              refine ev_int ?_
              refine gi_list (.tail _ (.tail _ (.tail _ (.tail _ hm)))) a1 hz ?_
              refine ev_int ?_
              refine c2_eq ?_
              refine ⟨_, .bool _, ?_⟩
              refine dec_split (fun hc => ?_) (fun hc => ?_)
              · refine tr_and_nil ?_
                exact ⟨(decide_eq_true ⟨by assumption, by assumption⟩).symm, rfl⟩
              · exact ⟨(decide_eq_false fun q => absurd q.2 (by assumption)).symm, rfl⟩
            · exact ⟨(decide_eq_false fun q => absurd q.1 (by assumption)).symm, rfl⟩
          refine dec_split (fun hv => ?_) (fun hv => ?_)
          · rw [show tellZ H.told (n0 ts 0 % 256) ts many = _ from (if_neg hw).trans (if_pos hv)] at h
            refine ex_sub ?_
            refine ev_callT (ev_glob (by assumption) (.tail _ (.tail _ (.tail _ (.head _)))) (gv_tuple _) ⟨_, rfl, ?_⟩)
            refine ar_cons ?_
            refine ev_map (γ := Int) [] [Str.ofString "part"] r' E rfl (by decide) rfl (by decide) (by decide) ?_
            refine ev_slice ?_
            refine ev_loc (by assumption) (.head _) (.tail (.tail .head)) ?_
            refine part_yes ?_
            refine ev_int ?_
            refine ⟨2, rfl, ?_⟩
            refine part_yes ?_
            refine ev_int ?_
            refine ⟨5, rfl, ?_⟩
            refine .list (.tail _ (.tail _ (.tail _ (.tail _ hm)))) hz fun b => ?_
            rw [mid3 ht.1]
            refine ⟨_, [n0 ts 2, n0 ts 3, n0 ts 4], .int, fun part => .int (min part 100), .list (.head _), Nat.le_of_ble_eq_true rfl, fun cenv Ec z hz => ?_, fun b2 => ?_⟩
            · have hT := Ec.loc (names := [Str.ofString "part"]) rfl rfl
              have hG := Ec.glob (names := [Str.ofString "min"]) rfl rfl
              show W1 C _ isEq (ns cenv.locals [Str.ofString "part"] [none] :: _) _ _ _
              refine as_name ?_
              refine st_loc (by assumption) (.head) (.head) ?_
              refine ev_callB (ev_glob (by assumption) (.head _) (gv_min _) ⟨_, rfl, ?_⟩)
              refine ar_cons ?_
              refine ev_loc (by assumption) (.head _) .head ?_
              refine ar_cons ?_
              refine ev_int ?_
              refine ar_nil ?_
              refine b_min (by assumption) ?_
              exact ⟨rfl, _, .rfl⟩
            · refine ar_nil ?_
              refine t_tup_list (.head _) (Nat.le_of_ble_eq_true rfl) ?_
              refine ev_sub ?_
              refine ev_loc (by assumption) (.tail _ (.tail _ (.head _))) .head ?_
              refine ev_str ?_
              refine gi_dicS (.tail _ (.tail _ (.tail _ (.head _)))) ((.tail (.tail (.tail (.tail (.tail (.tail .head))))))) ?_
              refine ev_bin ?_
              refine ev_sub ?_
              refine ev_loc (by assumption) (.tail _ (.tail _ (.head _))) (.tail (.tail .head)) ?_
              refine ev_int ?_
              refine gi_list (.tail _ (.tail _ (.tail _ (.tail _ (.tail _ (.tail _ hm)))))) a0 hz ?_
              refine ev_int ?_
              refine o2_mod (by omega) ?_
              refine si_dict (.tail (.tail (.tail (.tail (.tail .head))))) (keyI _) hzc ?_
              rw [show dput (colsA H.told) (n0 ts 0 % 256) (.tup ([n0 ts 2, n0 ts 3, n0 ts 4].map fun part => .int (min part 100))) = colsA (dput H.told (n0 ts 0 % 256) [min (n0 ts 2) 100, min (n0 ts 3) 100, min (n0 ts 4) 100]) from dput_map triA H.told (n0 ts 0 % 256) [min (n0 ts 2) 100, min (n0 ts 3) 100, min (n0 ts 4) 100]]
              refine ex_nil ?_
              refine next_is ?_
              refine ex_nil ?_
              refine next_is ?_
              refine ex_nil ?_
              refine next_is ?_
              refine ex_nil ?_
              refine next_is ?_
              refine ex_nil ?_
              refine ⟨_, _, .next, ?_, h⟩
              exact (.pick (.tail (.tail (.tail .head))) (.pick (.tail (.tail (.tail .head))) (.pick (.tail (.tail (.tail .head))) (.tails (.tails (.tails .rfl))))))
          · rw [show tellZ H.told (n0 ts 0 % 256) ts many = _ from (if_neg hw).trans (if_neg hv)] at h
            refine ex_nil ?_
            refine next_is ?_
            refine ex_nil ?_
            refine next_is ?_
            refine ex_nil ?_
            refine next_is ?_
            refine ex_nil ?_
            refine next_is ?_
            refine ex_nil ?_
            refine ⟨_, _, .next, ?_, h⟩
            exact (.pick (.tail .head) (.pick (.tail .head) (.pick (.tail .head) (.tails .rfl))))
      · have hc2 : ¬ c = 35 := fun q => absurd (show (⟨#[c]⟩ : Str) = ⟨#[35]⟩ by rw [q]) (by assumption)
        refine ex_if ?_
        refine tr_is (p := H.begun = false ∧ H.size = (0, 0)) ?_ ?_
        · refine tr_and ?_
          refine tr_not ?_
          refine tr_val ?_
          refine ev_sub ?_
          refine ev_loc (by assumption) (.head _) .head ?_
          refine ev_str ?_
          refine gi_dicS (.tail _ (.head _)) ((.tail (.tail (.tail (.tail (.tail (.tail (.tail (.tail (.tail (.tail (.tail .head)))))))))))) ?_
          refine ⟨_, .bool _, ?_⟩
          refine ⟨fun hc => ?_, fun hc => ?_⟩
          · have hb : H.begun = false := by cases hb : H.begun with | false => rfl | true => rw [hb] at hc; cases hc
            refine tr_and ?_
            refine tr_cmp ?_
            refine ev_sub ?_
            refine ev_loc (by assumption) (.head _) .head ?_
            refine ev_str ?_
            refine gi_dicS (.tail _ (.head _)) ((.tail (.tail (.tail (.tail (.tail (.tail (.tail (.tail (.tail .head)))))))))) ?_
            refine ev_tup ?_
            refine ar_cons ?_
            refine ev_int ?_
            refine ar_cons ?_
            refine ev_int ?_
            refine ar_nil ?_
            refine ⟨Nat.le_of_ble_eq_true rfl, ?_⟩
            refine c2_eq_pair (q := (0, 0)) r' ?_
            refine ⟨_, .bool _, ?_⟩
            refine dec_split (fun hc => ?_) (fun hc => ?_)
            · refine tr_and_nil ?_
              exact ⟨(decide_eq_true ⟨hb, by assumption⟩).symm, rfl⟩
            · exact ⟨(decide_eq_false fun q => absurd q.2 (by assumption)).symm, rfl⟩
          · exact ⟨(decide_eq_false fun q => by rw [q.1] at hc; cases hc).symm, rfl⟩
        refine dec_split (fun hw => ?_) (fun hw => ?_)
        · rw [show commandI most H c ts many = _ from (if_neg hc1).trans ((if_neg hc2).trans (if_pos hw))] at h
          refine ex_sub ?_
          refine ev_tup ?_
          refine ar_cons ?_
          refine ev_callB (ev_glob (by assumption) (.head _) (gv_max _) ⟨_, rfl, ?_⟩)
          refine ar_cons ?_
          refine ev_int ?_
          refine ar_cons ?_
          refine ev_sub ?_
          refine ev_loc (by assumption) (.head _) (.tail (.tail .head)) ?_
          refine ev_int ?_
          refine gi_list (.tail _ (.tail _ (.tail _ (.tail _ hm)))) a0 hz ?_
          refine ar_nil ?_
          refine b_max (by assumption) ?_
          refine ar_cons ?_
          refine ev_callB (ev_glob (by assumption) (.head _) (gv_max _) ⟨_, rfl, ?_⟩)
          refine ar_cons ?_
          refine ev_int ?_
          refine ar_cons ?_
          refine ev_sub ?_
          refine ev_loc (by assumption) (.head _) (.tail (.tail .head)) ?_
          refine ev_int ?_
          refine gi_list (.tail _ (.tail _ (.tail _ (.tail _ hm)))) a1 hz ?_
          refine ar_nil ?_
          refine b_max (by assumption) ?_
          refine ar_nil ?_
          refine ⟨Nat.le_of_ble_eq_true rfl, ?_⟩
          refine ev_loc (by assumption) (.head _) .head ?_
          refine ev_str ?_
          refine si_dicS ((.tail .head)) ((.tail (.tail (.tail (.tail (.tail (.tail (.tail (.tail (.tail (.tail .head))))))))))) (Nat.le_of_ble_eq_true rfl) ?_
          refine ex_sub ?_
          refine ev_tup ?_
          refine ar_cons ?_
          refine ev_callB (ev_glob (by assumption) (.tail _ (.tail _ (.head _))) (gv_min _) ⟨_, rfl, ?_⟩)
          refine ar_cons ?_
          refine ev_sub ?_
          refine ev_loc (by assumption) (.head _) (.tail (.tail .head)) ?_
          refine ev_int ?_
          refine gi_list (.tail _ (.tail _ (.tail _ (.tail _ hm)))) a2 hz ?_
          refine ar_cons ?_
          refine ev_sub ?_
          refine ev_loc (by assumption) (.head _) .head ?_
          refine ev_str ?_
          refine gi_dicS (.tail _ (.head _)) (.head) ?_
          refine ar_nil ?_
          refine b_min (by assumption) ?_
          refine ar_cons ?_
          refine ev_callB (ev_glob (by assumption) (.tail _ (.tail _ (.head _))) (gv_min _) ⟨_, rfl, ?_⟩)
          refine ar_cons ?_
          refine ev_sub ?_
          refine ev_loc (by assumption) (.head _) (.tail (.tail .head)) ?_
          refine ev_int ?_
          refine gi_list (.tail _ (.tail _ (.tail _ (.tail _ hm)))) a3 hz ?_
          refine ar_cons ?_
          refine ev_sub ?_
          refine ev_loc (by assumption) (.head _) .head ?_
          refine ev_str ?_
          refine gi_dicS (.tail _ (.head _)) (.head) ?_
          refine ar_nil ?_
          refine b_min (by assumption) ?_
          refine ar_nil ?_
          refine ⟨Nat.le_of_ble_eq_true rfl, ?_⟩
          refine ev_loc (by assumption) (.head _) .head ?_
          refine ev_str ?_
          refine si_dicS ((.tail .head)) ((.tail (.tail (.tail (.tail (.tail (.tail (.tail (.tail (.tail .head)))))))))) (Nat.le_of_ble_eq_true rfl) ?_
          refine ex_nil ?_
          refine next_is ?_
          refine ex_nil ?_
          refine next_is ?_
          refine ex_nil ?_
          refine next_is ?_
          refine ex_nil ?_
          refine ⟨_, _, .next, ?_, h⟩
          exact (.pick (.tail .head) (.pick (.tail .head) (.pick (.tail .head) (.tails .rfl))))
        · rw [show commandI most H c ts many = _ from (if_neg hc1).trans ((if_neg hc2).trans (if_neg hw))] at h
          refine ex_nil ?_
          refine next_is ?_
          refine ex_nil ?_
          refine next_is ?_
          refine ex_nil ?_
          refine next_is ?_
          refine ex_nil ?_
          refine ⟨_, _, .next, ?_, h⟩
          exact (.pick (.tail .head) (.pick (.tail .head) (.pick (.tail .head) (.tails .rfl))))
end Mine
end
section
open PySem PySem.W PySem.Calls PyProof.Rows PySem.StrLaws PySem.Builtin PySem.Builtin.Str
namespace Mine
noncomputable def splitL : List Nat → List (List Nat)
  | [] => [[]]
  | c :: r => if c = 59 then [] :: splitL r else match splitL r with
    | [] => [[c]]
    | h :: t => (c :: h) :: t
theorem splitL_cons {c : Nat} {r : List Nat} : splitL (c :: r) = if c = 59 then [] :: splitL r else match splitL r with
    | [] => [[c]]
    | h :: t => (c :: h) :: t := rfl
theorem splitL_ne : ∀ l : List Nat, splitL l ≠ []
  | [] => by simp [splitL]
  | c :: r => by
    unfold splitL
    split
    · simp
    · split <;> simp
noncomputable def semis (L : List Nat) : Nat → Nat → List Nat
  | _, 0 => []
  | a, k + 1 => if L[a]? = some 59 then a :: semis L (a + 1) k else semis L (a + 1) k
theorem semis_succ {L : List Nat} {a k : Nat} : semis L a (k + 1) = if L[a]? = some 59 then a :: semis L (a + 1) k else semis L (a + 1) k := rfl
theorem occ_semis (x : Str) (lim : Nat) : ∀ (k a : Nat) (acc : Array Nat) (free : Nat), free ≤ a → acc.size ≤ a → a + k ≤ lim →
    (forIn (List.range' a k) ((acc, free) : Array Nat × Nat) (occBody x ⟨#[59]⟩ x.length lim)).run.fst.toList = acc.toList ++ semis x.cps.toList a k
  | 0, a, acc, free, _, _, _ => by simp [semis]
  | k + 1, a, acc, free, hf, hs, hl => by
    rw [List.range'_succ, List.forIn_cons]
    unfold occBody
    by_cases h : x.cps.toList[a]? = some 59
    · have hc := (subAt_one x 59 a).mpr h
      rw [if_pos ⟨⟨⟨by show acc.size < lim; omega, hf⟩, hc.1⟩, hc.2⟩]
      show (forIn (List.range' (a + 1) k) ((acc.push a, a + 1) : Array Nat × Nat) (occBody x ⟨#[59]⟩ x.length lim)).run.fst.toList = _
      rw [occ_semis x lim k (a + 1) (acc.push a) (a + 1) (Nat.le_refl _) (by rw [Array.size_push]; omega) (by omega)]
      rw [semis_succ, if_pos h, Array.toList_push, List.append_assoc]; rfl
    · rw [if_neg (fun q => h ((subAt_one x 59 a).mp ⟨q.1.2, q.2⟩))]
      show (forIn (List.range' (a + 1) k) ((acc, free) : Array Nat × Nat) (occBody x ⟨#[59]⟩ x.length lim)).run.fst.toList = _
      rw [occ_semis x lim k (a + 1) acc free (by omega) (by omega) (by omega)]
      rw [semis_succ, if_neg h]
noncomputable def strOfL (l : List Nat) : Str := ⟨l.toArray⟩
theorem semis_past {L : List Nat} : ∀ (k a : Nat), L.length ≤ a → semis L a k = []
  | 0, _, _ => rfl
  | k + 1, a, h => by
    unfold semis
    rw [if_neg (by rw [List.getElem?_eq_none h]; simp), semis_past k (a + 1) (by omega)]
theorem sub_eq (x : Str) (i j : Nat) : strSub x i j = strOfL ((x.cps.toList.drop i).take (j - i)) := by
  apply Str.ext'
  apply Array.toList_inj.mp
  rw [strSub_toList]; rfl
theorem semis_ge {L : List Nat} : ∀ (k a : Nat), ∀ c ∈ semis L a k, a ≤ c
  | 0, _, _, h => (nomatch h)
  | k + 1, a, c, h => by
    unfold semis at h
    split at h
    · rcases List.mem_cons.mp h with rfl | h
      · exact Nat.le_refl _
      · exact Nat.le_of_succ_le (semis_ge k (a + 1) c h)
    · exact Nat.le_of_succ_le (semis_ge k (a + 1) c h)
theorem parts_semis (x : Str) : ∀ (k a : Nat), a + k = x.cps.toList.length + 1 → a ≤ x.cps.toList.length → partsFrom x 1 a (semis x.cps.toList a k) = (splitL (x.cps.toList.drop a)).map strOfL
  | 0, a, h, h2 => by omega
  | k + 1, a, h, h2 => by
    have hx : x.cps.toList.length = x.length := by simp [Str.length]
    by_cases hlt : a < x.cps.toList.length
    · have e : x.cps.toList.drop a = x.cps.toList[a] :: x.cps.toList.drop (a + 1) := List.drop_eq_getElem_cons hlt
      have ih := parts_semis x k (a + 1) (by omega) hlt
      rw [semis_succ]
      by_cases h59 : x.cps.toList[a]? = some 59
      · rw [if_pos h59, e]
        have e9 : x.cps.toList[a] = 59 := by rw [List.getElem?_eq_getElem hlt] at h59; exact Option.some.inj h59
        rw [e9]
        show strSub x a a :: partsFrom x 1 (a + 1) _ = _
        rw [ih, sub_eq, Nat.sub_self, List.take_zero]
        rw [splitL_cons, if_pos rfl]; rfl
      · rw [if_neg h59, e]
        have e9 : x.cps.toList[a] ≠ 59 := fun q => h59 (by rw [List.getElem?_eq_getElem hlt, q])
        rw [splitL_cons, if_neg e9]
        have hs := semis_ge (L := x.cps.toList) k (a + 1)
        have key : ∀ j, a + 1 ≤ j → strSub x a j = strOfL (x.cps.toList[a] :: (x.cps.toList.drop (a + 1)).take (j - (a + 1))) := fun j hj => by
          rw [sub_eq, e, show j - a = (j - (a + 1)) + 1 by omega, List.take_succ_cons]
        cases hS : semis x.cps.toList (a + 1) k with
        | nil =>
          rw [hS] at ih
          have ih' : [strSub x (a + 1) x.length] = _ := ih
          show [strSub x a x.length] = _
          rw [key _ (by omega)]
          rw [sub_eq] at ih'
          cases hq : splitL (x.cps.toList.drop (a + 1)) with
          | nil => exact (splitL_ne _ hq).elim
          | cons p t =>
            rw [hq] at ih'
            rw [List.map_cons] at ih'
            injection ih' with i1 i2
            have i3 := congrArg (fun s => s.cps.toList) i1
            dsimp only
            rw [List.map_cons, ← i2]
            have i4 : (x.cps.toList.drop (a + 1)).take (x.length - (a + 1)) = p := i3
            rw [i4]
        | cons c r =>
          rw [hS] at ih hs
          have hc := hs c (.head _)
          have ih' : strSub x (a + 1) c :: partsFrom x 1 (c + 1) r = _ := ih
          show strSub x a c :: partsFrom x 1 (c + 1) r = _
          rw [key _ hc]
          rw [sub_eq] at ih'
          cases hq : splitL (x.cps.toList.drop (a + 1)) with
          | nil => exact (splitL_ne _ hq).elim
          | cons p t =>
            rw [hq] at ih'
            rw [List.map_cons] at ih'
            injection ih' with i1 i2
            have i3 := congrArg (fun s => s.cps.toList) i1
            dsimp only
            rw [List.map_cons, ← i2]
            have i4 : (x.cps.toList.drop (a + 1)).take (c - (a + 1)) = p := i3
            rw [i4]
    · have ea : a = x.cps.toList.length := by omega
      rw [semis_past _ _ (by omega)]
      show [strSub x a x.length] = _
      rw [sub_eq, List.drop_of_length_le (by omega), List.take_nil]; rfl
theorem split_eq (x : Str) : Txt.split x ⟨#[59]⟩ = (splitL x.cps.toList).map strOfL := by
  have hx : x.cps.toList.length = x.length := by simp [Str.length]
  have key := parts_semis x (x.length + 1) 0 (by omega) (by omega)
  have hocc : occurrences x ⟨#[59]⟩ 0 x.length (x.length + 1) = semis x.cps.toList 0 (x.length + 1) := by
    rw [occ_eq]
    have := occ_semis x (x.length + 1) (x.length + 1) 0 #[] 0 (Nat.le_refl _) (Nat.le_refl _) (by omega)
    simpa using this
  have one : strOfL x.cps.toList = x := rfl
  rw [List.drop_zero] at key
  rw [← key]
  unfold Txt.split
  have hkind : Builtin.Str.strKind ⟨#[59]⟩ = 1 := by decide +kernel
  have hk : ¬ Builtin.Str.strKind x < Builtin.Str.strKind ⟨#[59]⟩ := by
    rw [hkind]
    unfold Builtin.Str.strKind
    split
    · omega
    · split <;> omega
  by_cases h0 : x.length < (⟨#[59]⟩ : Str).length
  · rw [if_pos (by simp [h0])]
    have e0 : x.length = 0 := by have : (⟨#[59]⟩ : Str).length = 1 := rfl; omega
    have eL : x.cps.toList = [] := List.length_eq_zero_iff.mp (by omega)
    rw [semis_past _ _ (by rw [eL]; exact Nat.le_refl _)]
    show [x] = [strSub x 0 x.length]
    rw [sub_eq, List.drop_zero, Nat.sub_zero, ← hx, List.take_length, one]
  · rw [if_neg (by simp [h0, hk]), hocc]
    split
    · rename_i he
      have hn : semis x.cps.toList 0 (x.length + 1) = [] := List.isEmpty_iff.mp he
      rw [hn]
      show [x] = [strSub x 0 x.length]
      rw [sub_eq, List.drop_zero, Nat.sub_zero, ← hx, List.take_length, one]
    · rw [partsBetween_eq]; rfl
theorem splitL_mem {P : Nat → Prop} : ∀ {l : List Nat}, (∀ c ∈ l, c = 59 ∨ P c) → ∀ p ∈ splitL l, ∀ c ∈ p, P c
  | [], _, p, hp, c, hc => by
    have : p = [] := by simpa [splitL] using hp
    rw [this] at hc; cases hc
  | d :: r, h, p, hp, c, hc => by
    have ih := splitL_mem (P := P) (l := r) fun c hc => h c (.tail _ hc)
    rw [splitL_cons] at hp
    split at hp
    · rcases List.mem_cons.mp hp with rfl | hp
      · cases hc
      · exact ih p hp c hc
    · rename_i hd
      split at hp
      · rename_i he; exact (splitL_ne _ he).elim
      · rename_i q t he
        rw [he] at ih
        rcases List.mem_cons.mp hp with rfl | hp
        · rcases List.mem_cons.mp hc with rfl | hc
          · exact (h _ (.head _)).resolve_left hd
          · exact ih q (.head _) c hc
        · exact ih p (.tail _ hp) c hc
theorem splitL_seg {k : Nat} : ∀ {l : List Nat} {n : Nat}, segOk k n l → (∀ p ∈ splitL l, p.length ≤ k) ∧ ∀ p, (splitL l).head? = some p → n + p.length ≤ k
  | [], n, h => by
    have e : splitL [] = [[]] := rfl
    rw [e]
    refine ⟨fun p hp => ?_, fun p hp => ?_⟩
    · rw [List.mem_singleton.mp hp]; exact Nat.zero_le _
    · cases hp; exact h
  | c :: r, n, h => by
    obtain ⟨h1, h2⟩ := h
    rw [splitL_cons]
    by_cases e : c = 59
    · rw [if_pos e] at h2 ⊢
      have ih := splitL_seg h2
      refine ⟨fun p hp => ?_, fun p hp => ?_⟩
      · rcases List.mem_cons.mp hp with rfl | hp
        · exact Nat.zero_le _
        · exact ih.1 p hp
      · cases hp; exact h1
    · rw [if_neg e] at h2 ⊢
      have ih := splitL_seg h2
      cases he : splitL r with
      | nil => exact (splitL_ne _ he).elim
      | cons q t =>
        rw [he] at ih
        have hq := ih.2 q rfl
        refine ⟨fun p hp => ?_, fun p hp => ?_⟩
        · rcases List.mem_cons.mp hp with rfl | hp
          · rw [List.length_cons]; omega
          · exact ih.1 p (.tail _ hp)
        · cases hp; rw [List.length_cons]; omega
end Mine
end
section
open PySem PySem.W PySem.Calls PyProof.Rows
namespace Mine
open PySem.NumText PySem.StrLaws
noncomputable def isNS (c : Nat) : Bool := decide (c = 59 ∨ (48 ≤ c ∧ c ≤ 57))
noncomputable def numV (p : List Nat) : Int := min ((digitsVal p : Nat) : Int) 32767
noncomputable def segOf (cs : List Nat) (p : Nat) : List Nat := (cs.drop p).takeWhile isNS
noncomputable def numsL (cs : List Nat) (p : Nat) : List Int := ((splitL (segOf cs p)).map numV).take 8
theorem take_while : ∀ {L : List Nat} {n : Nat}, n ≤ L.length → (∀ i, i < n → isNS (L.getD i 0) = true) → (n < L.length → isNS (L.getD n 0) = false) → L.take n = L.takeWhile isNS
  | [], n, h, _, _ => by
    have : n = 0 := Nat.le_zero.mp h
    subst this; rfl
  | c :: r, 0, h, h1, h2 => by
    have := h2 (Nat.succ_pos _)
    rw [List.takeWhile_cons, show isNS c = false from this]; rfl
  | c :: r, n + 1, h, h1, h2 => by
    rw [List.takeWhile_cons, show isNS c = true from h1 0 (Nat.succ_pos _), if_pos rfl, List.take_succ_cons]
    congr 1
    exact take_while (Nat.le_of_succ_le_succ h) (fun i hi => h1 (i + 1) (Nat.succ_lt_succ hi)) fun hn => h2 (Nat.succ_lt_succ hn)
theorem seg_eq {cs : List Nat} {p e : Nat} (h0 : p ≤ e) (h : e ≤ cs.length) (h1 : ∀ i, p ≤ i → i < e → isNS (cs.getD i 0) = true) (h2 : e < cs.length → isNS (cs.getD e 0) = false) : (cs.take e).drop p = segOf cs p := by
  rw [List.drop_take]
  have hg : ∀ i, (cs.drop p).getD i 0 = cs.getD (p + i) 0 := fun i => by rw [List.getD_eq_getElem?_getD, List.getD_eq_getElem?_getD, List.getElem?_drop]
  refine take_while (by rw [List.length_drop]; omega) (fun i hi => ?_) fun hn => ?_
  · rw [hg]; exact h1 _ (by omega) (by omega)
  · rw [hg, show p + (e - p) = e by omega]; exact h2 (by rw [List.length_drop] at hn; omega)
theorem segOf_ns {cs : List Nat} {p : Nat} : ∀ c ∈ segOf cs p, isNS c = true := fun c hc => List.all_eq_true.mp List.all_takeWhile c hc
theorem digits_low : ∀ c, c < 64 → decide (c ∈ (Str.ofString "0123456789;").cps.toList) = isNS c := by decide +kernel
theorem digits_top : ∀ c ∈ (Str.ofString "0123456789;").cps.toList, c < 64 := by decide +kernel
theorem digits_in (c : Nat) : decide (c ∈ (Str.ofString "0123456789;").cps.toList) = isNS c := by
  by_cases h : c < 64
  · exact digits_low c h
  · unfold isNS
    rw [decide_eq_false (fun q => h (digits_top c q)), decide_eq_false (fun q => h (by omega))]
theorem parts_ok {cs : List Nat} {p k : Nat} (hs : segOk k 0 cs) : ∀ q ∈ splitL (segOf cs p), AllDigits q ∧ q.length ≤ k := fun q hq => by
  refine ⟨fun c hc => ?_, ?_⟩
  · refine splitL_mem (P := fun c => 48 ≤ c ∧ c ≤ 57) (fun c hc => ?_) q hq c hc
    have := segOf_ns c hc
    exact of_decide_eq_true this
  · have h1 : segOf cs p <+: cs.drop p := List.takeWhile_prefix _
    obtain ⟨r, hr⟩ := h1
    have h2 := segOk.take (hs.drop p) (segOf cs p).length
    rw [← hr, List.take_left] at h2
    exact (splitL_seg h2).1 q hq
theorem splitL_len : ∀ l : List Nat, (splitL l).length ≤ l.length + 1
  | [] => Nat.le_refl _
  | c :: r => by
    have := splitL_len r
    rw [splitL_cons]
    split
    · rw [List.length_cons, List.length_cons]; omega
    · split
      · exact Nat.le_add_left ..
      · rename_i h; rw [h] at this; rw [List.length_cons] at this ⊢; rw [List.length_cons]; omega
theorem bm_split : BM "str" "split" "str.split" := ⟨F.plainAttrs_str, F.slot_str_split, F.type_str_split⟩
set_option maxHeartbeats 1000000 in
theorem numbers_spec {C : Cx} {A : Around} {n : Nat} {l : List Ent} {x : Str} {p : Nat} {Φ : AV → List Ent → Prop} (r : Room A (n + 4)) (hx : Pc x 900 600) (hp : p ≤ x.length)
    (h : ∀ tl, Φ (.tup [.ref tl, .int (numsL x.cps.toList p).length]) (lst tl ((numsL x.cps.toList p ++ List.replicate 8 0).map .int) :: l)) : Wn C A Is l [.str x, .int p] (fun vs => call (.ref 171) vs) Φ := by
  have ho : (Kf C).lookup 171 = some _ := rfl
  refine call_plain (fd := _) (body := _) (params := [Str.ofString "text", Str.ofString "place"]) (rest := [Str.ofString "end", Str.ofString "told"]) (names := [Str.ofString "text", Str.ofString "place", Str.ofString "end", Str.ofString "told"]) (vals := [some (.str x), some (.int p), none, none]) (n := n + 3)
    ⟨⟨_, C.kin _ _ ho, rfl⟩, codeRec_of C.kin rfl, rfl, rfl, rfl, rfl, rfl, rfl, rfl⟩ r (fun s vs _ hl => ?_) rfl rfl rfl (by decide) rfl rfl fun env E r' => ?_
  · obtain ⟨y, z, rfl⟩ := len2 hl
    exact .of_eq rfl
  · clear ho
    have hT := E.loc (names := [Str.ofString "text", Str.ofString "place", Str.ofString "end", Str.ofString "told"]) rfl rfl
    have hG := E.glob (names := [Str.ofString "len"]) rfl rfl
    have hL : x.cps.toList.length = x.length := by simp [Str.length]
    have hz := hx.len
    have hz5 : x.length ≤ 100000 := by omega
    refine ex_assign ?_
    refine ev_loc (by assumption) (.head _) (.tail .head) ?_
    refine st_loc (by assumption) (.head) ((.tail (.tail .head))) ?_
    refine ex_while (fun m l' => ∃ e : Nat, l' = ns env.locals [Str.ofString "text", Str.ofString "place", Str.ofString "end", Str.ofString "told"] [some (.str x), some (.int p), some (.int e), none] :: l ∧ p ≤ e ∧ e ≤ x.length ∧ m = x.length - e ∧ ∀ i, p ≤ i → i < e → isNS (x.cps.toList.getD i 0) = true) (x.length - p) ⟨p, rfl, Nat.le_refl _, hp, rfl, fun i h1 h2 => by omega⟩ fun m l' hI => ?_
    obtain ⟨e, rfl, e1, e2, rfl, e3⟩ := hI
    refine tr_is (p := e < x.length ∧ isNS (x.cps.toList.getD e 0) = true) ?_ ?_
    · refine tr_and ?_
      refine tr_cmp ?_
      refine ev_loc (by assumption) (.head _) (.tail (.tail .head)) ?_
      refine ev_callB (ev_glob (by assumption) (.head _) (gv_len _) ⟨_, rfl, ?_⟩)
      refine ar_cons ?_
      refine ev_loc (by assumption) (.head _) .head ?_
      refine ar_nil ?_
      refine b_len_str (by assumption) ?_
      refine c2_lt ?_
      refine ⟨_, .bool _, ?_⟩
      refine dec_split (fun hc => ?_) (fun hc => ?_)
      · have he : e < x.length := by omega
        have hce : x.cps.toList[e]? = some (x.cps.toList.getD e 0) := by rw [List.getD_eq_getElem?_getD, List.getElem?_eq_getElem (by omega)]; rfl
        refine tr_and ?_
        refine tr_cmp ?_
        refine ev_sub ?_
        refine ev_loc (by assumption) (.head _) .head ?_
        refine ev_loc (by assumption) (.head _) (.tail (.tail .head)) ?_
        refine gi_str (.pos (by omega) (by rw [Int.toNat_natCast]; exact hce)) hz5 ?_
        refine ev_str ?_
        refine c2_in_str ?_
        rw [digits_in]
        refine ⟨_, .bool _, ?_⟩
        refine ⟨fun hc => ?_, fun hc => ?_⟩
        · refine tr_and_nil ?_
          exact ⟨(decide_eq_true ⟨he, by assumption⟩).symm, rfl⟩
        · exact ⟨(decide_eq_false fun q => by rw [q.2] at hc; cases hc).symm, rfl⟩
      · exact ⟨(decide_eq_false fun q => by omega).symm, rfl⟩
    refine dec_split (fun hc => ?_) (fun hc => ?_)
    · refine ex_assign ?_
      refine ev_bin ?_
      refine ev_loc (by assumption) (.head _) (.tail (.tail .head)) ?_
      refine ev_int ?_
      refine o2_add ?_
      refine st_loc (by assumption) (.head) ((.tail (.tail .head))) ?_
      refine ex_nil ?_
      refine ⟨rfl, x.length - (e + 1), by omega, e + 1, rfl, by omega, by omega, rfl, fun i h1 h2 => ?_⟩
      by_cases hi : i < e
      · exact e3 i h1 hi
      · rw [show i = e by omega]; exact hc.2
    · have hseg : (x.cps.toList.take e).drop p = segOf x.cps.toList p := seg_eq e1 (by omega) e3 fun hn => by
        cases hq : isNS (x.cps.toList.getD e 0) with
        | false => rfl
        | true => exact (hc ⟨by omega, hq⟩).elim
      have hpt := parts_ok (p := p) hx.seg
      have hsl : (segOf x.cps.toList p).length ≤ 900 := by rw [← hseg, List.length_drop, List.length_take]; omega
      refine ex_assign ?_
      refine ev_slice ?_
      refine ev_map (γ := Str) [] [Str.ofString "part"] r' E rfl (by decide) rfl (by decide) (by decide) ?_
      refine ev_bm bm_split ?_
      refine ev_slice ?_
      refine ev_loc (by assumption) (.head _) .head ?_
      refine part_yes ?_
      refine ev_loc (by assumption) (.head _) (.tail .head) ?_
      refine ⟨p, rfl, ?_⟩
      refine part_yes ?_
      refine ev_loc (by assumption) (.head _) (.tail (.tail .head)) ?_
      refine ⟨e, rfl, ?_⟩
      refine .str e1 e2 hz5 ?_
      rw [hseg]
      refine ⟨.str, ?_⟩
      refine ar_cons ?_
      refine ev_str ?_
      refine ar_nil ?_
      refine m_split (c := 59) (by show (segOf x.cps.toList p).toArray.size ≤ _; rw [List.size_toArray]; omega) fun a1 => ?_
      rw [split_eq]
      have hsp := splitL_len (segOf x.cps.toList p)
      refine ⟨_, (splitL (segOf x.cps.toList p)).map strOfL, .str, fun q => .int (numV q.cps.toList), .list (.head _), by rw [List.length_map]; omega, fun cenv Ec z hz => ?_, fun a2 => ?_⟩
      · have hT := Ec.loc (names := [Str.ofString "part"]) rfl rfl
        have hG := Ec.glob (names := [Str.ofString "min", Str.ofString "int"]) rfl rfl
        show W1 C _ isEq (ns cenv.locals [Str.ofString "part"] [none] :: _) _ _ _
        obtain ⟨q, hq, rfl⟩ := List.mem_map.mp hz
        obtain ⟨z1, z2⟩ := hpt q hq
        have hql : (strOfL q).length ≤ 600 := by show q.toArray.size ≤ 600; rw [List.size_toArray]; exact z2
        have h0l : (Str.ofString "0").length = 1 := by decide
        refine as_name ?_
        refine st_loc (by assumption) (.head) (.head) ?_
        refine ev_callB (ev_glob (by assumption) (.head _) (gv_min _) ⟨_, rfl, ?_⟩)
        refine ar_cons ?_
        refine ev_callT (ev_glob (by assumption) (.tail _ (.head _)) (gv_int _) ⟨_, rfl, ?_⟩)
        refine ar_cons ?_
        refine ev_bin ?_
        refine ev_str ?_
        refine ev_loc (by assumption) (.head _) .head ?_
        refine o2_str (by first | omega | assumption) ?_
        refine ar_nil ?_
        have e48 : (Str.ofString "0" ++ strOfL q).cps.toList = 48 :: q := by rw [Str.cps_append, Array.toList_append]; rfl
        have hi : PySem.intText? (Str.ofString "0" ++ strOfL q) = some ((digitsVal q : Nat) : Int) := by
          have := intText_digits (x := Str.ofString "0" ++ strOfL q) (by rw [e48]; exact fun c hc => (List.mem_cons.mp hc).elim (fun e => by subst e; decide) (z1 c)) (by rw [e48]; simp) (by rw [Str.length_append]; omega)
          rw [e48] at this
          exact this
        refine t_int_str hi (by rw [Str.length_append]; omega) ?_
        refine ar_cons ?_
        refine ev_int ?_
        refine ar_nil ?_
        refine b_min (by assumption) ?_
        exact ⟨rfl, _, .rfl⟩
      · rw [List.map_map]
        refine part_no ?_
        refine part_yes ?_
        refine ev_int ?_
        refine ⟨8, rfl, ?_⟩
        refine .list (.head _) (by rw [List.length_map]; omega) fun a3 => ?_
        have e8 : lpick ((splitL (segOf x.cps.toList p)).map ((fun q => AV.int (numV q.cps.toList)) ∘ strOfL)) none (some 8) = (numsL x.cps.toList p).map AV.int := by
          unfold lpick numsL
          rw [List.map_take, List.map_map]; rfl
        rw [e8]
        have hn8 : (numsL x.cps.toList p).length ≤ 8 := by unfold numsL; rw [List.length_take]; omega
        have hn9 : ((numsL x.cps.toList p).map AV.int).length ≤ 100000 := by rw [List.length_map]; omega
        refine st_loc (by assumption) ((.tail (.tail (.tail .head)))) ((.tail (.tail (.tail .head)))) ?_
        refine ex_ret ?_
        refine ev_tup ?_
        refine ar_cons ?_
        refine ev_bin ?_
        refine ev_loc (by assumption) (.tail _ (.tail _ (.tail _ (.head _)))) (.tail (.tail (.tail .head))) ?_
        refine ev_bin ?_
        refine ev_list ?_
        refine ar_cons ?_
        refine ev_int ?_
        refine ar_nil ?_
        refine ⟨Nat.le_of_ble_eq_true rfl, fun a4 => ?_⟩
        refine ev_int ?_
        refine o2_rep (.head _) (by decide) (by decide) fun a5 => ?_
        refine o2_list (.tail _ (.tail _ (.head _))) (.head _) (by rw [List.length_map, List.length_replicate]; show _ + 8 ≤ _; omega) fun a6 => ?_
        rw [show (numsL x.cps.toList p).map AV.int ++ List.replicate (Int.toNat 8) (AV.int 0) = (numsL x.cps.toList p ++ List.replicate 8 0).map AV.int by rw [List.map_append, List.map_replicate]; rfl]
        refine ar_cons ?_
        refine ev_callB (ev_glob (by assumption) (.head _) (gv_len _) ⟨_, rfl, ?_⟩)
        refine ar_cons ?_
        refine ev_loc (by assumption) (.tail _ (.tail _ (.tail _ (.tail _ (.tail _ (.tail _ (.head _))))))) (.tail (.tail (.tail .head))) ?_
        refine ar_nil ?_
        refine b_len_list (.tail _ (.tail _ (.tail _ (.head _)))) (by assumption) ?_
        refine ar_nil ?_
        refine ⟨Nat.le_of_ble_eq_true rfl, ?_⟩
        rw [List.length_map]
        refine ⟨_, _, .ret, ?_, h a6⟩
        exact (.pick .head (.tails (.tails (.tails (.tails (.tails (.tails .rfl)))))))
end Mine
end
section
open PySem PySem.W PySem.Calls PyProof.Rows
namespace Mine
noncomputable def SH0 : SH := ⟨0, 0, 1, 0, [], [], 0, 0, (0, 0), (1, 1), false⟩
noncomputable def stepL (most : Int) (cs : List Nat) (H : SH) (i : Nat) : SH :=
  if cs.getD i 0 = 33 ∨ cs.getD i 0 = 35 ∨ cs.getD i 0 = 34 then commandI most H (cs.getD i 0) (numsL cs (i + 1) ++ List.replicate 8 0) (numsL cs (i + 1)).length
  else if cs.getD i 0 = 36 ∨ cs.getD i 0 = 45 then { H with column := 0, times := 1, band := H.band + (if cs.getD i 0 = 45 then 1 else 0) }
  else if 63 ≤ cs.getD i 0 ∧ cs.getD i 0 ≤ 126 then signI most H ((cs.getD i 0 : Nat) - 63)
  else H
noncomputable def readL (most : Int) (cs : List Nat) : Nat → SH
  | 0 => SH0
  | i + 1 => stepL most cs (readL most cs i) i
structure SOkK (most : Int) (k : Nat) (H : SH) : Prop where
  m1 : 1 ≤ most
  m2 : most ≤ 14
  c0 : 0 ≤ H.column
  c1 : H.column ≤ most
  t0 : 1 ≤ H.times
  t1 : H.times ≤ 32767
  b0 : 0 ≤ H.band
  b1 : H.band ≤ k
  p : H.pts.length ≤ 84 * k
  told : H.told.length ≤ k
theorem SOkK.ok {most : Int} {k : Nat} {H : SH} (h : SOkK most k H) (hk : k ≤ 1000) : SOk most H := ⟨h.m1, h.m2, h.c0, h.c1, h.t0, h.t1, h.b0, by have := h.b1; omega, by have := h.p; omega, by have := h.told; omega⟩
theorem numV_pos (q : List Nat) : 0 ≤ numV q ∧ numV q ≤ 32767 := by unfold numV; omega
theorem nums_pos {cs : List Nat} {p : Nat} : ∀ x ∈ numsL cs p ++ List.replicate 8 0, (0 : Int) ≤ x ∧ x ≤ 32767 := fun x hx => by
  rcases List.mem_append.mp hx with hx | hx
  · unfold numsL at hx
    obtain ⟨q, _, rfl⟩ := List.mem_map.mp (List.mem_of_mem_take hx)
    exact numV_pos q
  · rw [(List.mem_replicate.mp hx).2]; decide
theorem tellZ_len (t : List (Int × List Int)) (k : Int) (ts : List Int) (many : Int) : (tellZ t k ts many).length ≤ t.length + 1 := by
  unfold tellZ
  split
  · exact dput_length ..
  · split
    · exact dput_length ..
    · exact Nat.le_succ _
theorem SOkK.step {most : Int} {k : Nat} {H : SH} {cs : List Nat} {i : Nat} (h : SOkK most k H) : SOkK most (k + 1) (stepL most cs H i) := by
  obtain ⟨m1, m2, c0, c1, t0, t1, b0, b1, p, told⟩ := h
  have hn := nums_pos (cs := cs) (p := i + 1)
  unfold stepL
  split
  · unfold commandI
    split
    · have := n0_pos hn 0
      exact ⟨m1, m2, c0, c1, by dsimp only; omega, by dsimp only; omega, b0, by dsimp only; omega, by dsimp only; omega, by dsimp only; omega⟩
    · split
      · have := tellZ_len H.told (n0 (numsL cs (i + 1) ++ List.replicate 8 0) 0 % 256) (numsL cs (i + 1) ++ List.replicate 8 0) (numsL cs (i + 1)).length
        exact ⟨m1, m2, c0, c1, t0, t1, b0, by dsimp only; omega, by dsimp only; omega, by dsimp only; omega⟩
      · split
        · exact ⟨m1, m2, c0, c1, t0, t1, b0, by dsimp only; omega, by dsimp only; omega, by dsimp only; omega⟩
        · exact ⟨m1, m2, c0, c1, t0, t1, b0, by omega, by omega, by omega⟩
  · split
    · exact ⟨m1, m2, by dsimp only; omega, by dsimp only; omega, by dsimp only; omega, by dsimp only; omega, by dsimp only; split <;> omega, by dsimp only; split <;> omega, by dsimp only; omega, by dsimp only; omega⟩
    · split
      · unfold signI
        split
        · exact ⟨m1, m2, by dsimp only; omega, by dsimp only; omega, by dsimp only; omega, by dsimp only; omega, b0, by dsimp only; omega, by dsimp only; omega, by dsimp only; omega⟩
        · have := bandZ_len (most := most) (top := 6 * H.band) (bits := ((cs.getD i 0 : Nat) : Int) - 63) (col := H.column) (e := min (H.column + H.times) most) (v := H.colour) H.pts (by omega) 6
          exact ⟨m1, m2, by dsimp only; omega, by dsimp only; omega, by dsimp only; omega, by dsimp only; omega, b0, by dsimp only; omega, by dsimp only; omega, by dsimp only; omega⟩
      · exact ⟨m1, m2, c0, c1, t0, t1, b0, by omega, by omega, by omega⟩
theorem readL_ok {most : Int} {cs : List Nat} (m1 : 1 ≤ most) (m2 : most ≤ 14) : ∀ i, SOkK most i (readL most cs i)
  | 0 => ⟨m1, m2, Int.le_refl _, by show 0 ≤ most; omega, by show (1 : Int) ≤ 1; decide, by show (1 : Int) ≤ 32767; decide, Int.le_refl _, Int.le_refl _, Nat.le_refl _, Nat.le_refl _⟩
  | i + 1 => (readL_ok m1 m2 i).step
theorem in_cmd (c : Nat) : decide (c ∈ (Str.ofString "!#\"").cps.toList) = decide (c = 33 ∨ c = 35 ∨ c = 34) := by
  rw [show (Str.ofString "!#\"").cps.toList = [33, 35, 34] by decide]
  exact decide_eq_decide.mpr (by simp)
theorem in_back (c : Nat) : decide (c ∈ (Str.ofString "$-").cps.toList) = decide (c = 36 ∨ c = 45) := by
  rw [show (Str.ofString "$-").cps.toList = [36, 45] by decide]
  exact decide_eq_decide.mpr (by simp)
set_option maxHeartbeats 2000000 in
theorem lread_spec {C : Cx} {A : Around} {n : Nat} {l : List Ent} {x : Str} {most : Int} {Φ : AV → List Ent → Prop} (r : Room A (n + 7)) (hx : Pc x 900 600) (m1 : 1 ≤ most) (m2 : most ≤ 14)
    (h : ∀ a dp dt, Φ (.ref a) (sht C most a dp dt (readL most x.cps.toList x.length) l)) : Wn C A Is l [.str x, .int most] (fun vs => call (.ref 190) vs) Φ := by
  have ho : (Kf C).lookup 190 = some _ := rfl
  refine call_plain (fd := _) (body := _) (params := [Str.ofString "text", Str.ofString "most"]) (rest := [Str.ofString "sheet", Str.ofString "place", Str.ofString "word", Str.ofString "told", Str.ofString "many"]) (names := [Str.ofString "text", Str.ofString "most", Str.ofString "sheet", Str.ofString "place", Str.ofString "word", Str.ofString "told", Str.ofString "many"]) (vals := [some (.str x), some (.int most), none, none, none, none, none]) (n := n + 6)
    ⟨⟨_, C.kin _ _ ho, rfl⟩, codeRec_of C.kin rfl, rfl, rfl, rfl, rfl, rfl, rfl, rfl⟩ r (fun s vs _ hl => ?_) rfl rfl rfl (by decide) rfl rfl fun env E r' => ?_
  · obtain ⟨y, z, rfl⟩ := len2 hl
    exact .of_eq rfl
  · clear ho
    have hT := E.loc (names := [Str.ofString "text", Str.ofString "most", Str.ofString "sheet", Str.ofString "place", Str.ofString "word", Str.ofString "told", Str.ofString "many"]) rfl rfl
    have hG := E.glob (names := [Str.ofString "range", Str.ofString "len", Str.ofString "_law_numbers", Str.ofString "_law_command", Str.ofString "ord", Str.ofString "_law_sign"]) rfl rfl
    have hI := E.inter rfl
    have hL : x.cps.toList.length = x.length := by simp [Str.length]
    have hz := hx.len
    have hz5 : x.length ≤ 100000 := by omega
    refine ex_assign ?_
    refine ev_dict (strKind prg C.w) fun a => ?_
    refine ep_cons ?_
    refine ev_str ?_
    refine ev_stand ?_
    refine ev_loc (by assumption) (.tail _ (.head _)) (.tail .head) ?_
    refine ep_cons ?_
    refine ev_str ?_
    refine ev_stand ?_
    refine ev_int ?_
    refine ep_cons ?_
    refine ev_str ?_
    refine ev_stand ?_
    refine ev_int ?_
    refine ep_cons ?_
    refine ev_str ?_
    refine ev_stand ?_
    refine ev_int ?_
    refine ep_cons ?_
    refine ev_str ?_
    refine ev_stand ?_
    refine ev_int ?_
    refine ep_cons ?_
    refine ev_str ?_
    refine ev_stand ?_
    refine ev_dict0T fun dp => ?_
    refine ep_cons ?_
    refine ev_str ?_
    refine ev_stand ?_
    refine ev_dict0 (intKind prg C.w) fun dt => ?_
    refine ep_nil ?_
    refine ⟨[(Str.ofString "most", .int most), (Str.ofString "column", .int 0), (Str.ofString "band", .int 0), (Str.ofString "times", .int 1), (Str.ofString "colour", .int 0), (Str.ofString "points", .ref dp), (Str.ofString "told", .ref dt)], _, .cons (keyS _) (.cons (keyS _) (.cons (keyS _) (.cons (keyS _) (.cons (keyS _) (.cons (keyS _) (.cons (keyS _) .nil)))))), show [Str.ofString "most", Str.ofString "column", Str.ofString "band", Str.ofString "times", Str.ofString "colour", Str.ofString "points", Str.ofString "told"].Nodup by decide, .tail (.tail .head), ?_⟩
    refine st_loc (by assumption) ((.tail (.tail (.tail .head)))) ((.tail (.tail .head))) ?_
    refine ex_tup ?_ ?_
    rotate_left
    · obtain ⟨e1, e2, e3, e4⟩ := E
      obtain ⟨sc, L, G, B, Ce, Co, Fr⟩ := env
      dsimp only at e1
      subst e1
      rfl
    refine ev_tup ?_
    refine ar_cons ?_
    refine ev_int ?_
    refine ar_cons ?_
    refine ev_int ?_
    refine ar_cons ?_
    refine ev_tup ?_
    refine ar_cons ?_
    refine ev_int ?_
    refine ar_cons ?_
    refine ev_int ?_
    refine ar_nil ?_
    refine ⟨Nat.le_of_ble_eq_true rfl, ?_⟩
    refine ar_cons ?_
    refine ev_tup ?_
    refine ar_cons ?_
    refine ev_int ?_
    refine ar_cons ?_
    refine ev_int ?_
    refine ar_nil ?_
    refine ⟨Nat.le_of_ble_eq_true rfl, ?_⟩
    refine ar_cons ?_
    refine ev_bool ?_
    refine ar_nil ?_
    refine ⟨Nat.le_of_ble_eq_true rfl, ?_⟩
    refine as_tup (by assumption) ?_
    refine in_cons ?_
    refine as_sub ?_
    refine ev_loc (by assumption) (.tail _ (.tail _ (.tail _ (.head _)))) (.tail (.tail .head)) ?_
    refine ev_str ?_
    refine si_dicN (.tail (.tail .head)) (show Str.ofString "wide" ∉ [Str.ofString "most", Str.ofString "column", Str.ofString "band", Str.ofString "times", Str.ofString "colour", Str.ofString "points", Str.ofString "told"] by decide) (Nat.le_of_ble_eq_true rfl) ?_
    refine in_cons ?_
    refine as_sub ?_
    refine ev_loc (by assumption) (.tail _ (.tail _ (.tail _ (.head _)))) (.tail (.tail .head)) ?_
    refine ev_str ?_
    refine si_dicN (.tail (.tail .head)) (show Str.ofString "bands" ∉ [Str.ofString "most", Str.ofString "column", Str.ofString "band", Str.ofString "times", Str.ofString "colour", Str.ofString "points", Str.ofString "told", Str.ofString "wide"] by decide) (Nat.le_of_ble_eq_true rfl) ?_
    refine in_cons ?_
    refine as_sub ?_
    refine ev_loc (by assumption) (.tail _ (.tail _ (.tail _ (.head _)))) (.tail (.tail .head)) ?_
    refine ev_str ?_
    refine si_dicN (.tail (.tail .head)) (show Str.ofString "size" ∉ [Str.ofString "most", Str.ofString "column", Str.ofString "band", Str.ofString "times", Str.ofString "colour", Str.ofString "points", Str.ofString "told", Str.ofString "wide", Str.ofString "bands"] by decide) (Nat.le_of_ble_eq_true rfl) ?_
    refine in_cons ?_
    refine as_sub ?_
    refine ev_loc (by assumption) (.tail _ (.tail _ (.tail _ (.head _)))) (.tail (.tail .head)) ?_
    refine ev_str ?_
    refine si_dicN (.tail (.tail .head)) (show Str.ofString "aspect" ∉ [Str.ofString "most", Str.ofString "column", Str.ofString "band", Str.ofString "times", Str.ofString "colour", Str.ofString "points", Str.ofString "told", Str.ofString "wide", Str.ofString "bands", Str.ofString "size"] by decide) (Nat.le_of_ble_eq_true rfl) ?_
    refine in_cons ?_
    refine as_sub ?_
    refine ev_loc (by assumption) (.tail _ (.tail _ (.tail _ (.head _)))) (.tail (.tail .head)) ?_
    refine ev_str ?_
    refine si_dicN (.tail (.tail .head)) (show Str.ofString "begun" ∉ [Str.ofString "most", Str.ofString "column", Str.ofString "band", Str.ofString "times", Str.ofString "colour", Str.ofString "points", Str.ofString "told", Str.ofString "wide", Str.ofString "bands", Str.ofString "size", Str.ofString "aspect"] by decide) (Nat.le_of_ble_eq_true rfl) ?_
    refine in_nil ?_
    refine Wr.gives (l' := ns env.locals [Str.ofString "text", Str.ofString "most", Str.ofString "sheet", Str.ofString "place", Str.ofString "word", Str.ofString "told", Str.ofString "many"] [some (.str x), some (.int most), some (.ref a), none, none, none, none] :: sht C most a dp dt (readL most x.cps.toList 0) l) (.pick (.tail (.tail (.tail .head))) (.pick (.tail (.tail .head)) (.pick (.tail .head) (.pick .head .rfl)))) ?_
    refine ex_for r' ?_
    refine ev_callT (ev_glob (by assumption) (.head _) (gv_range _) ⟨_, rfl, ?_⟩)
    refine ar_cons ?_
    refine ev_callB (ev_glob (by assumption) (.tail _ (.head _)) (gv_len _) ⟨_, rfl, ?_⟩)
    refine ar_cons ?_
    refine ev_loc (by assumption) (.head _) .head ?_
    refine ar_nil ?_
    refine b_len_str (by assumption) ?_
    refine ar_nil ?_
    refine b_range1 fun rr => ?_
    have hR1 : RB 0 (x.length : Nat) := .of0 (by omega) (by omega)
    refine ⟨_, _, fun i l' => ∃ vp vw vt vm, Gives l' (rng rr 0 (x.length : Nat) :: ns env.locals [Str.ofString "text", Str.ofString "most", Str.ofString "sheet", Str.ofString "place", Str.ofString "word", Str.ofString "told", Str.ofString "many"] [some (.str x), some (.int most), some (.ref a), vp, vw, vt, vm] :: sht C most a dp dt (readL most x.cps.toList i) l) ∧ rng rr 0 (x.length : Nat) ∈ l', .rng (.head _) hR1, ⟨none, none, none, none, .rfl, .head _⟩, fun i y l' hy hI => ?_, fun l' hI => ?_⟩
    · obtain ⟨vp, vw, vt, vm, g, hr⟩ := hI
      obtain ⟨hi, rfl⟩ := range_at hy
      refine ⟨.rng hr hR1, ?_⟩
      refine W1.gives g ?_
      have hi' : i < x.length := by omega
      have hci : x.cps.toList[i]? = some (x.cps.toList.getD i 0) := by rw [List.getD_eq_getElem?_getD, List.getElem?_eq_getElem (by omega)]; rfl
      have O := (readL_ok (cs := x.cps.toList) m1 m2 i).ok (by omega)
      have hst : readL most x.cps.toList (i + 1) = stepL most x.cps.toList (readL most x.cps.toList i) i := rfl
      refine as_name ?_
      refine st_loc (by assumption) ((.tail .head)) ((.tail (.tail (.tail .head)))) ?_
      refine ex_assign ?_
      refine ev_sub ?_
      refine ev_loc (by assumption) (.tail _ (.head _)) .head ?_
      refine ev_loc (by assumption) (.tail _ (.head _)) (.tail (.tail (.tail .head))) ?_
      refine gi_str (.pos (by omega) (by rw [show ((0 : Int) + (i : Int)).toNat = i by omega]; exact hci)) hz5 ?_
      generalize hcd : x.cps.toList.getD i 0 = c at *
      refine st_loc (by assumption) ((.tail .head)) ((.tail (.tail (.tail (.tail .head))))) ?_
      refine ex_if ?_
      refine tr_cmp ?_
      refine ev_loc (by assumption) (.tail _ (.head _)) (.tail (.tail (.tail (.tail .head)))) ?_
      refine ev_str ?_
      refine c2_in_str ?_
      rw [in_cmd]
      refine ⟨_, .bool _, ?_⟩
      refine dec_split (fun hc => ?_) (fun hc => ?_)
      · have hA : c = 33 ∨ c = 35 ∨ c = 34 := by assumption
        have e : readL most x.cps.toList (i + 1) = commandI most (readL most x.cps.toList i) c (numsL x.cps.toList (i + 1) ++ List.replicate 8 0) (numsL x.cps.toList (i + 1)).length := by
          rw [hst]; unfold stepL; rw [hcd, if_pos hA]
        refine ex_tup ?_ ?_
        rotate_left
        · obtain ⟨e1, e2, e3, e4⟩ := E
          obtain ⟨sc, L, G, B, Ce, Co, Fr⟩ := env
          dsimp only at e1
          subst e1
          rfl
        refine ev_callK (ev_glob (by assumption) (.tail _ (.tail _ (.head _))) (gv_numbers _) ⟨_, rfl, rfl, ?_⟩)
        refine ar_cons ?_
        refine ev_loc (by assumption) (.tail _ (.head _)) .head ?_
        refine ar_cons ?_
        refine ev_bin ?_
        refine ev_loc (by assumption) (.tail _ (.head _)) (.tail (.tail (.tail .head))) ?_
        refine ev_int ?_
        refine o2_add ?_
        refine ar_nil ?_
        rw [show (0 : Int) + (i : Int) + 1 = ((i + 1 : Nat) : Int) by omega]
        refine numbers_spec (n := n + 2) r' hx (by omega) fun tl => ?_
        refine as_tup (by assumption) ?_
        refine in_cons ?_
        refine as_name ?_
        refine st_loc (by assumption) ((.tail (.tail .head))) ((.tail (.tail (.tail (.tail (.tail .head)))))) ?_
        refine in_cons ?_
        refine as_name ?_
        refine st_loc (by assumption) ((.tail (.tail .head))) ((.tail (.tail (.tail (.tail (.tail (.tail .head))))))) ?_
        refine in_nil ?_
        refine ex_expr ?_ (by assumption)
        refine ev_callK (ev_glob (by assumption) (.tail _ (.tail _ (.tail _ (.head _)))) (gv_command _) ⟨_, rfl, rfl, ?_⟩)
        refine ar_cons ?_
        refine ev_loc (by assumption) (.tail _ (.tail _ (.head _))) (.tail (.tail .head)) ?_
        refine ar_cons ?_
        refine ev_loc (by assumption) (.tail _ (.tail _ (.head _))) (.tail (.tail (.tail (.tail .head)))) ?_
        refine ar_cons ?_
        refine ev_loc (by assumption) (.tail _ (.tail _ (.head _))) (.tail (.tail (.tail (.tail (.tail .head))))) ?_
        refine ar_cons ?_
        refine ev_loc (by assumption) (.tail _ (.tail _ (.head _))) (.tail (.tail (.tail (.tail (.tail (.tail .head)))))) ?_
        refine ar_nil ?_
        refine .gives (.pick (.tail (.tail (.tail .head))) (.pick (.tail (.tail (.tail .head))) (.pick (.tail (.tail (.tail .head))) .rfl))) ?_
        refine command_spec (n := n) r' O ?_ nums_pos (.head _) ?_
        · rw [List.length_append, List.length_replicate]
          have : (numsL x.cps.toList (i + 1)).length ≤ 8 := by unfold numsL; rw [List.length_take]; omega
          omega
        rw [← e]
        refine ⟨rfl, ?_⟩
        refine ex_nil ?_
        refine next_is ?_
        refine ex_nil ?_
        refine .inl ⟨rfl, some (.int (0 + (i : Int))), some (.str ⟨#[c]⟩), some (.ref tl), some (.int ((numsL x.cps.toList (i + 1)).length : Nat)), ?_, .tail _ (.tail _ (.tail _ (.tail _ (.head _))))⟩
        exact (.pick (.tail (.tail (.tail (.tail .head)))) (.pick (.tail (.tail (.tail (.tail .head)))) (.pick .head (.pick .head (.pick .head (.tails .rfl))))))
      · have hA : ¬ (c = 33 ∨ c = 35 ∨ c = 34) := by assumption
        refine ex_if ?_
        refine tr_cmp ?_
        refine ev_loc (by assumption) (.tail _ (.head _)) (.tail (.tail (.tail (.tail .head)))) ?_
        refine ev_str ?_
        refine c2_in_str ?_
        rw [in_back]
        refine ⟨_, .bool _, ?_⟩
        refine dec_split (fun hc => ?_) (fun hc => ?_)
        · have hB : c = 36 ∨ c = 45 := by assumption
          have e : readL most x.cps.toList (i + 1) = { readL most x.cps.toList i with column := 0, times := 1, band := (readL most x.cps.toList i).band + (if c = 45 then 1 else 0) } := by
            rw [hst]; unfold stepL; rw [hcd, if_neg hA, if_pos hB]
          refine ex_tup ?_ ?_
          rotate_left
          · obtain ⟨e1, e2, e3, e4⟩ := E
            obtain ⟨sc, L, G, B, Ce, Co, Fr⟩ := env
            dsimp only at e1
            subst e1
            rfl
          refine ev_tup ?_
          refine ar_cons ?_
          refine ev_int ?_
          refine ar_cons ?_
          refine ev_int ?_
          refine ar_nil ?_
          refine ⟨Nat.le_of_ble_eq_true rfl, ?_⟩
          refine as_tup (by assumption) ?_
          refine in_cons ?_
          refine as_sub ?_
          refine ev_loc (by assumption) (.tail _ (.head _)) (.tail (.tail .head)) ?_
          refine ev_str ?_
          refine si_dicS ((.tail (.tail .head))) ((.tail .head)) (Nat.le_of_ble_eq_true rfl) ?_
          refine in_cons ?_
          refine as_sub ?_
          refine ev_loc (by assumption) (.tail _ (.head _)) (.tail (.tail .head)) ?_
          refine ev_str ?_
          refine si_dicS ((.tail (.tail .head))) ((.tail (.tail (.tail .head)))) (Nat.le_of_ble_eq_true rfl) ?_
          refine in_nil ?_
          refine ex_sub ?_
          refine ev_bin ?_
          refine ev_sub ?_
          refine ev_loc (by assumption) (.tail _ (.head _)) (.tail (.tail .head)) ?_
          refine ev_str ?_
          refine gi_dicS (.tail _ (.tail _ (.head _))) ((.tail (.tail .head))) ?_
          refine ev_if ?_
          refine tr_cmp ?_
          refine ev_loc (by assumption) (.tail _ (.head _)) (.tail (.tail (.tail (.tail .head)))) ?_
          refine ev_str ?_
          refine c2_str_eq ?_
          refine ⟨_, .bool _, ?_⟩
          refine dec_split (fun hc => ?_) (fun hc => ?_)
          · have h45 : c = 45 := by
              have q : (⟨#[c]⟩ : Str) = ⟨#[45]⟩ := by assumption
              injection q with q; injection q with q; injection q
            rw [if_pos h45] at e
            refine ev_int ?_
            refine o2_add ?_
            refine ev_loc (by assumption) (.tail _ (.head _)) (.tail (.tail .head)) ?_
            refine ev_str ?_
            refine si_dicS ((.tail (.tail .head))) ((.tail (.tail .head))) (Nat.le_of_ble_eq_true rfl) ?_
            refine ex_nil ?_
            refine next_is ?_
            refine ex_nil ?_
            refine next_is ?_
            refine ex_nil ?_
            refine .inl ⟨rfl, some (.int (0 + (i : Int))), some (.str ⟨#[c]⟩), vt, vm, ?_, .head _⟩
            rw [e]
            exact (.pick .head (.pick .head (.pick .head (.pick .head (.pick .head .rfl)))))
          · have h45 : ¬ c = 45 := fun q => absurd (show (⟨#[c]⟩ : Str) = Str.ofString "-" by rw [q]; rfl) (by assumption)
            rw [if_neg h45] at e
            refine ev_int ?_
            refine o2_add ?_
            refine ev_loc (by assumption) (.tail _ (.head _)) (.tail (.tail .head)) ?_
            refine ev_str ?_
            refine si_dicS ((.tail (.tail .head))) ((.tail (.tail .head))) (Nat.le_of_ble_eq_true rfl) ?_
            refine ex_nil ?_
            refine next_is ?_
            refine ex_nil ?_
            refine next_is ?_
            refine ex_nil ?_
            refine .inl ⟨rfl, some (.int (0 + (i : Int))), some (.str ⟨#[c]⟩), vt, vm, ?_, .head _⟩
            rw [e]
            exact (.pick .head (.pick .head (.pick .head (.pick .head (.pick .head .rfl)))))
        · have hB : ¬ (c = 36 ∨ c = 45) := by assumption
          refine ex_if ?_
          refine tr_is (p := 63 ≤ c ∧ c ≤ 126) ?_ ?_
          · refine tr_chain ?_
            refine ev_int ?_
            refine ev_callB (ev_glob (by assumption) (.tail _ (.tail _ (.tail _ (.tail _ (.head _))))) (gv_ord _) ⟨_, rfl, ?_⟩)
            refine ar_cons ?_
            refine ev_loc (by assumption) (.tail _ (.head _)) (.tail (.tail (.tail (.tail .head)))) ?_
            refine ar_nil ?_
            refine b_ord ?_
            refine c2_le ?_
            refine ⟨_, .bool _, ?_⟩
            refine dec_split (fun hc => ?_) (fun hc => ?_)
            · refine ev_int ?_
              refine c2_le ?_
              refine ⟨_, .bool _, ?_⟩
              exact ⟨decide_eq_decide.mpr (by omega), rfl⟩
            · exact ⟨(decide_eq_false fun q => by omega).symm, rfl⟩
          refine dec_split (fun hD => ?_) (fun hD => ?_)
          · have e : readL most x.cps.toList (i + 1) = signI most (readL most x.cps.toList i) ((c : Int) - 63) := by
              rw [hst]; unfold stepL; rw [hcd, if_neg hA, if_neg hB, if_pos hD]
            refine ex_expr ?_ (by assumption)
            refine ev_callK (ev_glob (by assumption) (.tail _ (.tail _ (.tail _ (.tail _ (.tail _ (.head _)))))) (gv_sign _) ⟨_, rfl, rfl, ?_⟩)
            refine ar_cons ?_
            refine ev_loc (by assumption) (.tail _ (.head _)) (.tail (.tail .head)) ?_
            refine ar_cons ?_
            refine ev_bin ?_
            refine ev_callB (ev_glob (by assumption) (.tail _ (.tail _ (.tail _ (.tail _ (.head _))))) (gv_ord _) ⟨_, rfl, ?_⟩)
            refine ar_cons ?_
            refine ev_loc (by assumption) (.tail _ (.head _)) (.tail (.tail (.tail (.tail .head)))) ?_
            refine ar_nil ?_
            refine b_ord ?_
            refine ev_int ?_
            refine o2_sub ?_
            refine ar_nil ?_
            refine .gives (.pick (.tail (.tail .head)) (.pick (.tail (.tail .head)) (.pick (.tail (.tail .head)) .rfl))) ?_
            refine sign_spec (n := n + 3) r' O (by omega) (by omega) ?_
            rw [← e]
            refine ⟨rfl, ?_⟩
            refine ex_nil ?_
            refine next_is ?_
            refine ex_nil ?_
            refine next_is ?_
            refine ex_nil ?_
            refine next_is ?_
            refine ex_nil ?_
            refine .inl ⟨rfl, some (.int (0 + (i : Int))), some (.str ⟨#[c]⟩), vt, vm, ?_, .tail _ (.tail _ (.tail _ (.head _)))⟩
            exact (.pick (.tail (.tail (.tail .head))) (.pick (.tail (.tail (.tail .head))) (.pick .head (.pick .head (.pick .head .rfl)))))
          · have e : readL most x.cps.toList (i + 1) = readL most x.cps.toList i := by
              rw [hst]; unfold stepL; rw [hcd, if_neg hA, if_neg hB, if_neg hD]
            refine ex_nil ?_
            refine next_is ?_
            refine ex_nil ?_
            refine next_is ?_
            refine ex_nil ?_
            refine next_is ?_
            refine ex_nil ?_
            refine .inl ⟨rfl, some (.int (0 + (i : Int))), some (.str ⟨#[c]⟩), vt, vm, ?_, .head _⟩
            rw [e]
            exact .rfl
    · obtain ⟨vp, vw, vt, vm, g, hr⟩ := hI
      refine ⟨.rng hr hR1, ?_⟩
      refine .gives g ?_
      rw [range_len]
      rw [show ((x.length : Int) - 0).toNat = x.length by omega]
      refine ex_ret ?_
      refine ev_loc (by assumption) (.tail _ (.head _)) (.tail (.tail .head)) ?_
      refine ⟨_, _, .ret, ?_, h a dp dt⟩
      exact (.pick (.tail (.tail .head)) (.pick (.tail (.tail .head)) (.pick (.tail (.tail .head)) (.tails (.tails .rfl)))))
end Mine
end
section
open PySem PySem.W PySem.Calls PyProof.Rows
namespace Mine
theorem is_tri {C : Cx} {f : PH} (hs : Sub C.h0.get? f) {a : Addr} {i j k : Int} {t u v : Tok} (h : (Kf C).lookup a = some { cls := .type "tuple", data := .seq #[.int i t, .int j u, .int k v] }) : Is f (triA [i, j, k]) (.ref a) :=
  .tup (vs := [.int i t, .int j u, .int k v]) (n := 0) (hs _ _ (C.kin _ _ h)) (.cons (.int _ _) (.cons (.int _ _) (.cons (.int _ _) .nil)))
theorem gv_palette (C : Cx) : GV C (Str.ofString "_law_palette") (.tup (pal.map triA)) := gvK (v := .ref 147) rfl fun f hs =>
  .tup (n := 0) (vs := [.ref 131, .ref 132, .ref 133, .ref 134, .ref 135, .ref 136, .ref 137, .ref 138, .ref 139, .ref 140, .ref 141, .ref 142, .ref 143, .ref 144, .ref 145, .ref 146]) (hs _ _ (C.kin _ _ rfl)) (.cons (is_tri hs rfl) (.cons (is_tri hs rfl) (.cons (is_tri hs rfl) (.cons (is_tri hs rfl) (.cons (is_tri hs rfl) (.cons (is_tri hs rfl) (.cons (is_tri hs rfl) (.cons (is_tri hs rfl) (.cons (is_tri hs rfl) (.cons (is_tri hs rfl) (.cons (is_tri hs rfl) (.cons (is_tri hs rfl) (.cons (is_tri hs rfl) (.cons (is_tri hs rfl) (.cons (is_tri hs rfl) (.cons (is_tri hs rfl) .nil))))))))))))))))
end Mine
end
section
open PySem PySem.W PySem.Calls PyProof.Rows
namespace Mine
noncomputable def shapeL (most : Int) (H : SH) : Int × Int := if H.size ≠ (0, 0) then (max H.wide H.size.1, max (lastOf H.pts) H.size.2) else (H.wide, min (6 * H.bands) most)
structure GeoL (most : Int) (H : SH) : Prop where
  m1 : 1 ≤ most
  m2 : most ≤ 14
  nd : (H.pts.map (·.1)).Nodup
  inn : ∀ p ∈ H.pts, 0 ≤ p.1.1 ∧ p.1.1 < min (6 * H.bands) most ∧ 0 ≤ p.1.2 ∧ p.1.2 < H.wide
  w0 : 0 ≤ H.wide
  w1 : H.wide ≤ most
  b0 : 0 ≤ H.bands
  b1 : H.bands ≤ 1000
  s0 : 0 ≤ H.size.1
  s1 : H.size.1 ≤ most
  s2 : 0 ≤ H.size.2
  s3 : H.size.2 ≤ most
  ln : H.pts.length ≤ 84000
  cl : H.told.length ≤ 1000
theorem ptsT_get {g : Int} : ∀ {p : ZP} {r c : Int}, (dget (ptsT p) [r, c]).getD (.int g) = .int ((dget p (r, c)).getD g)
  | [], _, _ => rfl
  | q :: t, r, c => by
    have e : ptsT (q :: t) = ([q.1.1, q.1.2], AV.int q.2) :: ptsT t := rfl
    rw [e, dget_cons, dget_cons]
    by_cases h : q.1 = (r, c)
    · rw [if_pos h, if_pos (by rw [h])]; rfl
    · rw [if_neg h, if_neg (fun h' => h (by injection h' with h1 h2; injection h2 with h2; exact Prod.ext h1 h2))]; exact ptsT_get
theorem geoL_shape {most : Int} {H : SH} (G : GeoL most H) : (0 ≤ (shapeL most H).1 ∧ (shapeL most H).1 ≤ 14 ∧ H.wide ≤ (shapeL most H).1) ∧ (0 ≤ (shapeL most H).2 ∧ (shapeL most H).2 ≤ 14 ∧ ∀ p ∈ H.pts, p.1.1 < (shapeL most H).2) := by
  obtain ⟨m1, m2, nd, inn, w0, w1, b0, b1, s0, s1, s2, s3, ln, cl⟩ := G
  have h1 : lastOf H.pts ≤ most := lastOf_le (by omega) fun p hp => by have := (inn p hp).2.1; omega
  obtain ⟨q1, q2, _⟩ := foldl_max (lp := H.pts) 0
  unfold shapeL
  split
  · refine ⟨⟨by dsimp only; omega, by dsimp only; omega, by dsimp only; omega⟩, by dsimp only; omega, by dsimp only; omega, fun q hq => ?_⟩
    have : q.1.1 + 1 ≤ lastOf H.pts := q2 q hq
    dsimp only; omega
  · exact ⟨⟨w0, by dsimp only; omega, Int.le_refl _⟩, by dsimp only; omega, by dsimp only; omega, fun p hp => (inn p hp).2.1⟩
theorem grid_flat {lp : ZP} {g : Int} {h w : Nat} : ((gridOf lp g h w).map (fun x => List.map AV.int x)).flatten.length = h * w := by
  rw [List.length_flatten, List.map_map]
  have e : List.map (List.length ∘ fun x => List.map AV.int x) (gridOf lp g h w) = List.replicate h w := by
    unfold gridOf rowOf
    rw [List.map_map]
    apply List.ext_getElem?
    intro j
    rw [List.getElem?_map, List.getElem?_replicate]
    by_cases hj : j < h
    · rw [List.getElem?_range hj, if_pos hj]
      show some (List.length (List.map _ (List.map _ (List.range w)))) = _
      rw [List.length_map, List.length_map, List.length_range]
    · rw [if_neg hj, List.getElem?_eq_none (by rw [List.length_range]; omega)]; rfl
  rw [e, List.sum_replicate_nat]
theorem colAt_stepL {told : List (Int × List Int)} {l : List Int} {k q : Int} : colAt told (fun x => decide (0 ≤ x ∧ x ∈ l ++ [k])) q = if 0 ≤ k ∧ dget told q = none ∧ q = k then some (firstCol q) else colAt told (fun x => decide (0 ≤ x ∧ x ∈ l)) q := by
  unfold colAt
  cases h : dget told q with
  | some x => simp
  | none =>
    by_cases e : q = k
    · subst e; by_cases e0 : 0 ≤ q <;> simp [e0]
    · simp [e]
set_option maxHeartbeats 2000000 in
theorem shown_spec {C : Cx} {A : Around} {n : Nat} {l : List Ent} {most g : Int} {a dp dt : Addr} {H : SH} {Φ : AV → List Ent → Prop} (r : Room A (n + 4)) (G : GeoL most H) (hg : g = 0 ∨ g = -1)
    (h : ∀ rr cc bs cl, bs.length = (shapeL most H).2.toNat → (cl.map (·.1)).Nodup → cl.length ≤ 100000 →
      (∀ k, dget cl k = colAt H.told (fun k => decide (0 ≤ k ∧ ((k = g ∧ 0 < (shapeL most H).1 ∧ 0 < (shapeL most H).2) ∨ ∃ row ∈ gridOf H.pts g (shapeL most H).2.toNat (shapeL most H).1.toNat, k ∈ row))) k) →
      Φ (.tup [.int (shapeL most H).1, .int (shapeL most H).2, .ref rr, .ref cc, pairA H.asp]) (lst rr (bs.map .ref) :: (grid bs (gridOf H.pts g (shapeL most H).2.toNat (shapeL most H).1.toNat) ++ dicI C cc (colsA cl) :: sht C most a dp dt H l))) :
    Wn C A Is (sht C most a dp dt H l) [.ref a, .int g] (fun vs => call (.ref 195) vs) Φ := by
  have ho : (Kf C).lookup 195 = some _ := rfl
  refine call_cels (fd := _) (body := _) (params := [Str.ofString "sheet", Str.ofString "ground"]) (names := [Str.ofString "sheet", Str.ofString "height", Str.ofString "last", Str.ofString "rows", Str.ofString "colours", Str.ofString "number"]) (cn := [Str.ofString "width", Str.ofString "points", Str.ofString "ground"]) (vals := [some (.ref a), none, none, none, none, none]) (cvals := [none, none, some (.int g)]) (n := n + 3)
    ⟨⟨_, C.kin _ _ ho, rfl⟩, codeRec_of C.kin rfl, rfl, rfl, rfl, rfl, rfl, rfl, rfl⟩ r (fun vs hl => ?_) rfl rfl rfl (by decide) (by decide) (by decide) (by decide) (.some .head (.none (.none (.none (.none (.none .nil)))))) (.none (.none (.some (.tail .head) .nil))) fun env cl hcl E r' => ?_
  · obtain ⟨x, y, rfl⟩ := len2 hl
    exact rfl
  · clear ho
    obtain ⟨cw, cp, cg, rfl⟩ := cl3 hcl
    have hT := E.loc (names := [Str.ofString "sheet", Str.ofString "height", Str.ofString "last", Str.ofString "rows", Str.ofString "colours", Str.ofString "number"]) rfl rfl
    have hG := E.glob (names := [Str.ofString "min", Str.ofString "max", Str.ofString "range", Str.ofString "dict", Str.ofString "_law_palette"]) rfl rfl
    have hC := E.cel rfl rfl (show [Str.ofString "width", Str.ofString "points", Str.ofString "ground"].Nodup by decide)
    have hI := E.inter rfl
    show WF C _ (ns env.locals [Str.ofString "sheet", Str.ofString "height", Str.ofString "last", Str.ofString "rows", Str.ofString "colours", Str.ofString "number"] [some (.ref a), none, none, none, none, none] :: cel cw none :: cel cp none :: cel cg (some (.int g)) :: sht C most a dp dt H l) _ _
    refine ex_tup ?_ ?_
    rotate_left
    · obtain ⟨e1, e2, e3, e4⟩ := E
      obtain ⟨sc, L, G, B, Ce, Co, Fr⟩ := env
      dsimp only at e1
      subst e1
      rfl
    have m1 := G.m1
    have m2 := G.m2
    have b0 := G.b0
    have b1 := G.b1
    refine ev_tup ?_
    refine ar_cons ?_
    refine ev_sub ?_
    refine ev_loc (by assumption) (.head _) .head ?_
    refine ev_str ?_
    refine gi_dicS (.tail _ (.tail _ (.tail _ (.tail _ (.head _))))) ((.tail (.tail (.tail (.tail (.tail .head)))))) ?_
    refine ar_cons ?_
    refine ev_sub ?_
    refine ev_loc (by assumption) (.head _) .head ?_
    refine ev_str ?_
    refine gi_dicS (.tail _ (.tail _ (.tail _ (.tail _ (.head _))))) ((.tail (.tail (.tail (.tail (.tail (.tail (.tail .head)))))))) ?_
    refine ar_cons ?_
    refine ev_callB (ev_glob (by assumption) (.head _) (gv_min _) ⟨_, rfl, ?_⟩)
    refine ar_cons ?_
    refine ev_bin ?_
    refine ev_int ?_
    refine ev_sub ?_
    refine ev_loc (by assumption) (.head _) .head ?_
    refine ev_str ?_
    refine gi_dicS (.tail _ (.tail _ (.tail _ (.tail _ (.head _))))) ((.tail (.tail (.tail (.tail (.tail (.tail (.tail (.tail .head))))))))) ?_
    refine o2_mul (mulOk (by omega) (by omega)) ?_
    refine ar_cons ?_
    refine ev_sub ?_
    refine ev_loc (by assumption) (.head _) .head ?_
    refine ev_str ?_
    refine gi_dicS (.tail _ (.tail _ (.tail _ (.tail _ (.head _))))) (.head) ?_
    refine ar_nil ?_
    refine b_min (by assumption) ?_
    refine ar_nil ?_
    refine ⟨Nat.le_of_ble_eq_true rfl, ?_⟩
    refine as_tup (by assumption) ?_
    refine in_cons ?_
    refine as_name ?_
    refine st_cel (by assumption) (.tail _ (.head _)) ((.tail (.tail .head))) ?_
    refine in_cons ?_
    refine as_name ?_
    refine st_cel (by assumption) (.head _) ((.tail .head)) ?_
    refine in_cons ?_
    refine as_name ?_
    refine st_loc (by assumption) (.head) ((.tail .head)) ?_
    refine in_nil ?_
    refine ex_ifP (fun l' => ∃ vl, Gives l' (ns env.locals [Str.ofString "sheet", Str.ofString "height", Str.ofString "last", Str.ofString "rows", Str.ofString "colours", Str.ofString "number"] [some (.ref a), some (.int (shapeL most H).2), vl, none, none, none] :: cel cw (some (.int (shapeL most H).1)) :: cel cp (some (.ref dp)) :: cel cg (some (.int g)) :: sht C most a dp dt H l)) ?_ ?_
    · refine tr_cmp ?_
      refine ev_sub ?_
      refine ev_loc (by assumption) (.head _) .head ?_
      refine ev_str ?_
      refine gi_dicS (.tail _ (.tail _ (.tail _ (.tail _ (.head _))))) ((.tail (.tail (.tail (.tail (.tail (.tail (.tail (.tail (.tail .head)))))))))) ?_
      refine ev_tup ?_
      refine ar_cons ?_
      refine ev_int ?_
      refine ar_cons ?_
      refine ev_int ?_
      refine ar_nil ?_
      refine ⟨Nat.le_of_ble_eq_true rfl, ?_⟩
      refine c2_ne_pair (q := (0, 0)) r' ?_
      refine ⟨_, .bool _, ?_⟩
      refine dec_split (fun hc => ?_) (fun hc => ?_)
      · have hs : H.size ≠ (0, 0) := by assumption
        have eS : shapeL most H = (max H.wide H.size.1, max (lastOf H.pts) H.size.2) := if_pos hs
        rw [eS]
        refine ex_assign ?_
        refine Wr.mono (Φ := fun v l' => v = .int (lastOf H.pts) ∧ ∃ oe, Gives l' (ns env.locals [Str.ofString "sheet", Str.ofString "height", Str.ofString "last", Str.ofString "rows", Str.ofString "colours", Str.ofString "number"] [some (.ref a), some (.int (min (6 * H.bands) most)), none, none, none, none] :: cel cw (some (.int H.wide)) :: cel cp (some (.ref dp)) :: cel cg (some (.int g)) :: dicS C a (shA most dp dt H) :: dicT C.w dp (ptsT H.pts) oe :: dicI C dt (colsA H.told) :: l)) (ev_if ?_) ?_
        · refine tr_cmp ?_
          refine ev_cel (by assumption) (.tail _ (.head _)) (.tail _ (.tail _ (.head _))) ?_
          refine ev_dict0T fun e0 => ?_
          refine c2_dicT_ne_nil r' (.tail _ (.tail _ (.tail _ (.tail _ (.tail _ (.tail _ (.head _))))))) (.head _) ?_
          refine ⟨_, .bool _, ?_⟩
          refine dec_split (fun hc => ?_) (fun hc => ?_)
          · have hne : ptsT H.pts ≠ [] := by assumption
            have hne2 : H.pts.map (fun p => p.1.1 + 1) ≠ [] := fun q => hne (by rw [List.map_eq_nil_iff.mp q]; rfl)
            have eP : ptsT H.pts = (H.pts.map fun q => (q.1, AV.int q.2)).map fun p => ([p.1.1, p.1.2], p.2) := by unfold ptsT; rw [List.map_map]; rfl
            refine Wr.epochT (fun e => .tail (.tail (.tail (.tail (.tail (.tail .head)))))) fun e => ?_
            refine ev_callB (ev_glob (by assumption) (.tail _ (.head _)) (gv_max _) ⟨_, rfl, ?_⟩)
            refine ar_cons ?_
            refine ev_compT (cl' := []) (names := [Str.ofString "row", Str.ofString "column"]) (g := fun r _ => .int (r + 1)) r' E rfl (by decide) rfl (by decide) (by decide) ?_
            refine ev_cel (by assumption) (.tail _ (.head _)) (.tail _ (.tail _ (.tail _ (.head _)))) ?_
            refine ⟨dp, H.pts.map fun q => (q.1, AV.int q.2), e, rfl, ?_, by rw [List.length_map]; have := G.ln; omega, fun cenv Ec r c => ?_, fun c => ?_⟩
            · rw [← eP]
              exact .tail _ (.tail _ (.tail _ (.tail _ (.tail _ (.tail _ (.head _))))))
            · have hT := Ec.loc (names := [Str.ofString "row", Str.ofString "column"]) rfl rfl
              show W1 C _ isEq (ns cenv.locals [Str.ofString "row", Str.ofString "column"] [none, none] :: _) _ _ _
              refine as_tup (by assumption) ?_
              refine in_cons ?_
              refine as_name ?_
              refine st_loc (by assumption) (.head) (.head) ?_
              refine in_cons ?_
              refine as_name ?_
              refine st_loc (by assumption) (.head) ((.tail .head)) ?_
              refine in_nil ?_
              refine ev_bin ?_
              refine ev_loc (by assumption) (.head _) .head ?_
              refine ev_int ?_
              refine o2_add ?_
              exact ⟨rfl, _, rfl⟩
            · rw [List.map_map, show H.pts.map ((fun p : (Int × Int) × AV => AV.int (p.1.1 + 1)) ∘ fun q => (q.1, AV.int q.2)) = (H.pts.map fun p => p.1.1 + 1).map AV.int by rw [List.map_map]; rfl]
              refine ar_nil ?_
              refine b_max_list r' (.head _) hne2 fun m h1 h2 => ?_
              refine ⟨?_, ?_⟩
              · obtain ⟨p, hp, rfl⟩ := List.mem_map.mp h1
                rw [lastOf_eq ⟨p, hp, rfl⟩ (fun q hq => h2 _ (List.mem_map.mpr ⟨q, hq, rfl⟩)) fun q hq => (G.inn q hq).1]
              · refine ⟨some e, ?_⟩
                exact (.pick (.tail (.tail .head)) (.pick (.tail (.tail .head)) (.pick (.tail (.tail .head)) (.pick (.tail (.tail .head)) (.pick (.tail (.tail .head)) (.pick (.tail (.tail .head)) (.pick (.tail (.tail .head)) (.tails (.tails .rfl)))))))))
          · have hne : ¬ ptsT H.pts ≠ [] := by assumption
            have he : H.pts = [] := List.map_eq_nil_iff.mp (Classical.not_not.mp hne)
            refine ev_int ?_
            refine ⟨by rw [he]; rfl, none, ?_⟩
            exact (.pick (.tail .head) (.pick (.tail .head) (.pick (.tail .head) (.pick (.tail .head) (.pick (.tail .head) (.pick (.tail .head) (.pick (.tail .head) (.tails .rfl))))))))
        · rintro v l' ⟨rfl, oe, hv⟩
          refine W1.gives hv ?_
          refine st_loc (by assumption) (.head) ((.tail (.tail .head))) ?_
          refine Wr.unepochT (.tail (.tail (.tail (.tail (.tail .head))))) ?_
          refine ex_tup ?_ ?_
          rotate_left
          · obtain ⟨e1, e2, e3, e4⟩ := E
            obtain ⟨sc, L, G, B, Ce, Co, Fr⟩ := env
            dsimp only at e1
            subst e1
            rfl
          refine ev_tup ?_
          refine ar_cons ?_
          refine ev_callB (ev_glob (by assumption) (.tail _ (.head _)) (gv_max _) ⟨_, rfl, ?_⟩)
          refine ar_cons ?_
          refine ev_cel (by assumption) (.head _) (.tail _ (.head _)) ?_
          refine ar_cons ?_
          refine ev_sub ?_
          refine ev_sub ?_
          refine ev_loc (by assumption) (.head _) .head ?_
          refine ev_str ?_
          refine gi_dicS (.tail _ (.tail _ (.tail _ (.tail _ (.head _))))) ((.tail (.tail (.tail (.tail (.tail (.tail (.tail (.tail (.tail .head)))))))))) ?_
          refine ev_int ?_
          refine gi_tup (xs := [.int H.size.1, .int H.size.2]) (.pos (by decide) rfl) (Nat.le_of_ble_eq_true rfl) ?_
          refine ar_nil ?_
          refine b_max (by assumption) ?_
          refine ar_cons ?_
          refine ev_callB (ev_glob (by assumption) (.tail _ (.head _)) (gv_max _) ⟨_, rfl, ?_⟩)
          refine ar_cons ?_
          refine ev_loc (by assumption) (.head _) (.tail (.tail .head)) ?_
          refine ar_cons ?_
          refine ev_sub ?_
          refine ev_sub ?_
          refine ev_loc (by assumption) (.head _) .head ?_
          refine ev_str ?_
          refine gi_dicS (.tail _ (.tail _ (.tail _ (.tail _ (.head _))))) ((.tail (.tail (.tail (.tail (.tail (.tail (.tail (.tail (.tail .head)))))))))) ?_
          refine ev_int ?_
          refine gi_tup (xs := [.int H.size.1, .int H.size.2]) (.pos (by decide) rfl) (Nat.le_of_ble_eq_true rfl) ?_
          refine ar_nil ?_
          refine b_max (by assumption) ?_
          refine ar_nil ?_
          refine ⟨Nat.le_of_ble_eq_true rfl, ?_⟩
          refine as_tup (by assumption) ?_
          refine in_cons ?_
          refine as_name ?_
          refine st_cel (by assumption) (.head _) ((.tail .head)) ?_
          refine in_cons ?_
          refine as_name ?_
          refine st_loc (by assumption) (.head) ((.tail .head)) ?_
          refine in_nil ?_
          refine ex_nil ?_
          exact ⟨rfl, _, .rfl⟩
      · have hs : H.size = (0, 0) := Classical.not_not.mp (by assumption)
        have eS : shapeL most H = (H.wide, min (6 * H.bands) most) := if_neg (fun q => q hs)
        rw [eS]
        refine ex_nil ?_
        exact ⟨rfl, none, .rfl⟩
    · rintro l' ⟨vl, hv⟩
      refine .gives hv ?_
      have hwh := geoL_shape G
      generalize hsh : shapeL most H = sh at *
      obtain ⟨w, ht⟩ := sh
      dsimp only at *
      refine ex_assign_compC (cl' := [(Str.ofString "width", cw), (Str.ofString "points", cp), (Str.ofString "ground", cg)]) (names := []) (cellN := Str.ofString "row") r' E rfl (fun _ _ => rfl) (fun _ => rfl) rfl (by decide) List.nodup_nil ?_ ?_
      rotate_left
      · obtain ⟨e1, e2, e3, e4⟩ := E
        obtain ⟨sc, L, G, B, Ce, Co, Fr⟩ := env
        dsimp only at e1
        subst e1
        rfl
      refine ev_callT (ev_glob (by assumption) (.tail _ (.tail _ (.head _))) (gv_range _) ⟨_, rfl, ?_⟩)
      refine ar_cons ?_
      refine ev_loc (by assumption) (.head _) (.tail .head) ?_
      refine ar_nil ?_
      refine b_range1 fun rr => ?_
      obtain ⟨r0, hr0⟩ : ∃ q, q = rr := ⟨_, rfl⟩
      subst hr0
      have hR1 : RB 0 ht := .of0 hwh.2.1 (by omega)
      refine ⟨_, _, fun c i ys l' => ∃ (bs : List Addr) (vr : Option AV), bs.length = i ∧ ys = bs.map .ref ∧ l' = grid bs ((gridOf H.pts g ht.toNat w.toNat).take i) ++ (cel c vr :: rng r0 0 ht :: ns env.locals [Str.ofString "sheet", Str.ofString "height", Str.ofString "last", Str.ofString "rows", Str.ofString "colours", Str.ofString "number"] [some (.ref a), some (.int ht), vl, none, none, none] :: cel cw (some (.int w)) :: cel cp (some (.ref dp)) :: cel cg (some (.int g)) :: sht C most a dp dt H l), .rng (.head _) hR1, ?_, fun c => ⟨[], none, rfl, rfl, rfl⟩, fun cenv c Ec i y ys l' hy hI => ?_, fun c ys l' hI hl => ?_⟩
      · rw [range_len]; omega
      · obtain ⟨bs, vr, hbs, rfl, rfl⟩ := hI
        obtain ⟨hi, rfl⟩ := range_at hy
        refine ⟨.rng (List.mem_append_right _ (.tail _ (.head _))) hR1, ?_⟩
        have hG := Ec.glob (names := [Str.ofString "range"]) rfl rfl
        have hC := Ec.cel rfl rfl (show [Str.ofString "row", Str.ofString "width", Str.ofString "points", Str.ofString "ground"].Nodup by decide)
        refine W1.gives (l' := cel c vr :: ns cenv.locals [] [] :: rng r0 0 ht :: (grid bs ((gridOf H.pts g ht.toNat w.toNat).take i) ++ (ns env.locals [Str.ofString "sheet", Str.ofString "height", Str.ofString "last", Str.ofString "rows", Str.ofString "colours", Str.ofString "number"] [some (.ref a), some (.int ht), vl, none, none, none] :: cel cw (some (.int w)) :: cel cp (some (.ref dp)) :: cel cg (some (.int g)) :: sht C most a dp dt H l))) ?_ ?_
        · exact .trans (.cons (Gives.past (p := [_, _]))) (.perm (List.Perm.swap ..))
        refine as_name ?_
        refine st_cel (by assumption) (.head _) (.head) ?_
        refine ev_map (γ := Int) [(Str.ofString "row", c), (Str.ofString "points", cp), (Str.ofString "ground", cg)] [Str.ofString "column"] r' Ec rfl (by decide) rfl (by decide) (by decide) ?_
        refine ev_callT (ev_glob (by assumption) (.head _) (gv_range _) ⟨_, rfl, ?_⟩)
        refine ar_cons ?_
        refine ev_cel (by assumption) (.tail _ (.head _)) (.tail _ (.tail _ (.tail _ (List.mem_append_right _ (.tail _ (.head _)))))) ?_
        refine ar_nil ?_
        refine b_range1 fun rr => ?_
        refine ⟨_, rangeInts 0 1 (w - 0).toNat, .int, fun z => .int (cellAt H.pts g i z.toNat), .rng (.head _) (.of0 (by omega) (by omega)), by rw [rangeInts_length]; omega, fun cenv2 Ed z hz => ?_, fun a3 => ?_⟩
        · have hT := Ed.loc (names := [Str.ofString "column"]) rfl rfl
          have hC := Ed.cel rfl rfl (show [Str.ofString "row", Str.ofString "points", Str.ofString "ground"].Nodup by decide)
          show W1 C _ isEq (ns cenv2.locals [Str.ofString "column"] [none] :: _) _ _ _
          refine as_name ?_
          refine st_loc (by assumption) (.head) (.head) ?_
          refine ev_bm bm_get ?_
          refine ev_cel (by assumption) (.tail _ (.head _)) (.tail _ (.tail _ (.tail _ (.tail _ (.tail _ (List.mem_append_right _ (.tail _ (.tail _ (.head _))))))))) ?_
          refine ⟨bty_T (.tail _ (.tail _ (.tail _ (.tail _ (.tail _ (List.mem_append_right _ (.tail _ (.tail _ (.tail _ (.tail _ (.tail _ (.head _)))))))))))), ?_⟩
          refine ar_cons ?_
          refine ev_tup ?_
          refine ar_cons ?_
          refine ev_cel (by assumption) (.head _) (.tail _ (.tail _ (.head _))) ?_
          refine ar_cons ?_
          refine ev_loc (by assumption) (.head _) .head ?_
          refine ar_nil ?_
          refine ⟨Nat.le_of_ble_eq_true rfl, ?_⟩
          refine ar_cons ?_
          refine ev_cel (by assumption) (.tail _ (.tail _ (.head _))) (.tail _ (.tail _ (.tail _ (.tail _ (.tail _ (List.mem_append_right _ (.tail _ (.tail _ (.tail _ (.head _)))))))))) ?_
          refine ar_nil ?_
          refine m_get_T (k := [0 + (i : Int), z]) r' (.tail _ (.tail _ (.tail _ (.tail _ (.tail _ (List.mem_append_right _ (.tail _ (.tail _ (.tail _ (.tail _ (.tail _ (.head _)))))))))))) rfl ?_
          rw [ptsT_get]
          refine ⟨?_, [some (.int z)], .rfl⟩
          obtain ⟨j, hj⟩ := List.mem_iff_getElem?.mp hz
          have hjl := (List.getElem?_eq_some_iff.mp hj).1
          rw [rangeInts_length] at hjl
          rw [rangeInts_get hjl] at hj
          have hz0 : z = (j : Int) := by injection hj with hj; omega
          subst hz0
          rw [Int.zero_add]; rfl
        · refine ⟨[], grid (bs ++ [a3]) ((gridOf H.pts g ht.toNat w.toNat).take (i + 1)) ++ (cel c (some (.int (0 + (i : Int)))) :: rng r0 0 ht :: ns env.locals [Str.ofString "sheet", Str.ofString "height", Str.ofString "last", Str.ofString "rows", Str.ofString "colours", Str.ofString "number"] [some (.ref a), some (.int ht), vl, none, none, none] :: cel cw (some (.int w)) :: cel cp (some (.ref dp)) :: cel cg (some (.int g)) :: sht C most a dp dt H l), ?_, bs ++ [a3], some (.int (0 + (i : Int))), ?_, ?_, rfl⟩
          · have e1 : (rangeInts 0 1 (w - 0).toNat).map (fun z => AV.int (cellAt H.pts g i z.toNat)) = (rowOf H.pts g w.toNat i).map .int := by
              unfold rowOf
              apply List.ext_getElem?
              intro j
              rw [List.getElem?_map, List.getElem?_map, List.getElem?_map]
              by_cases hj : j < w.toNat
              · rw [rangeInts_get (show j < (w - 0).toNat by omega), List.getElem?_range hj]
                simp only [Option.map_some]
                rw [show (0 + (j : Int) * 1).toNat = j by omega]
              · rw [List.getElem?_eq_none (by rw [rangeInts_length]; omega), List.getElem?_eq_none (by rw [List.length_range]; omega)]; rfl
            have e2 : (gridOf H.pts g ht.toNat w.toNat).take (i + 1) = (gridOf H.pts g ht.toNat w.toNat).take i ++ [rowOf H.pts g w.toNat i] := by
              rw [List.take_add_one]
              congr 1
              unfold gridOf
              rw [List.getElem?_map, List.getElem?_range (by omega)]; rfl
            rw [e1, e2]
            refine .pick (.tail (.tail (.tail .head))) (.trans (.pick .head (.tails .rfl)) (.trans (.cons (.perm (show List.Perm ([_, _] ++ (_ ++ _)) (_ ++ ([_, _] ++ _)) by rw [← List.append_assoc, ← List.append_assoc]; exact List.perm_append_comm.append_right _))) (grid_new ?_)))
            rw [List.length_take, hbs]; unfold gridOf; rw [List.length_map, List.length_range]; omega
          · rw [List.length_append, hbs]; rfl
          · rw [List.map_append]; rfl
      · obtain ⟨bs, vr, hbs, rfl, rfl⟩ := hI
        refine ⟨.rng (List.mem_append_right _ (.tail _ (.head _))) hR1, fun a2 => ?_⟩
        rw [range_len] at hbs ⊢
        rw [show (ht - 0).toNat = ht.toNat by omega] at hbs ⊢
        have e3 : (gridOf H.pts g ht.toNat w.toNat).take ht.toNat = gridOf H.pts g ht.toNat w.toNat := List.take_of_length_le (by unfold gridOf; rw [List.length_map, List.length_range]; exact Nat.le_refl _)
        rw [e3]
        refine W1.gives (.trans (.sub (List.Sublist.cons_cons _ ((List.Sublist.refl _).append (List.Sublist.cons _ (List.Sublist.refl _))))) (Gives.house (p := [_, _, _, _, _, _, _]))) ?_
        refine W1.gives (l' := ns env.locals [Str.ofString "sheet", Str.ofString "height", Str.ofString "last", Str.ofString "rows", Str.ofString "colours", Str.ofString "number"] [some (.ref a), some (.int ht), vl, none, none, none] :: cel cw (some (.int w)) :: cel cp (some (.ref dp)) :: cel cg (some (.int g)) :: sht C most a dp dt H (lst a2 (bs.map .ref) :: (grid bs (gridOf H.pts g ht.toNat w.toNat) ++ l))) .rfl ?_
        refine st_loc (by assumption) (.head) ((.tail (.tail (.tail .head)))) ?_
        refine Wr.nodupKeys (.tail _ (.tail _ (.tail _ (.tail _ (.tail _ (.tail _ (.head _))))))) fun hnC => ?_
        refine ex_assign ?_
        refine ev_callT (ev_glob (by assumption) (.tail _ (.tail _ (.tail _ (.head _)))) (gv_dict _) ⟨_, rfl, ?_⟩)
        refine ar_cons ?_
        refine ev_sub ?_
        refine ev_loc (by assumption) (.head _) .head ?_
        refine ev_str ?_
        refine gi_dicS (.tail _ (.tail _ (.tail _ (.tail _ (.head _))))) ((.tail (.tail (.tail (.tail (.tail (.tail .head))))))) ?_
        refine ar_nil ?_
        refine t_dict_dict (.tail _ (.tail _ (.tail _ (.tail _ (.tail _ (.tail _ (.head _))))))) (by unfold colsA; rw [List.length_map]; have := G.cl; omega) fun cb => ?_
        refine st_loc (by assumption) ((.tail .head)) ((.tail (.tail (.tail (.tail .head))))) ?_
        refine ex_for r' ?_
        refine ev_bin ?_
        refine ev_bin ?_
        refine ev_list ?_
        refine ar_cons ?_
        refine ev_cel (by assumption) (.tail _ (.tail _ (.head _))) (.tail _ (.tail _ (.tail _ (.tail _ (.head _))))) ?_
        refine ar_nil ?_
        refine ⟨Nat.le_of_ble_eq_true rfl, fun a4 => ?_⟩
        refine ev_callB (ev_glob (by assumption) (.head _) (gv_min _) ⟨_, rfl, ?_⟩)
        refine ar_cons ?_
        refine ev_int ?_
        refine ar_cons ?_
        refine ev_bin ?_
        refine ev_cel (by assumption) (.head _) (.tail _ (.tail _ (.tail _ (.head _)))) ?_
        refine ev_loc (by assumption) (.tail _ (.tail _ (.head _))) (.tail .head) ?_
        refine o2_mul (mulOk (by omega) (by omega)) ?_
        refine ar_nil ?_
        refine b_min (by assumption) ?_
        have hp : 0 ≤ w * ht := Int.mul_nonneg hwh.1.1 hwh.2.1
        refine o2_rep (.head _) (by omega) (by omega) fun a5 => ?_
        refine ev_flat (cl' := []) (names := [Str.ofString "row", Str.ofString "point"]) r' E rfl (by decide) rfl (by decide) (by decide) rfl rfl ⟨_, .head⟩ (fun v => ⟨_, .head, .head⟩) (fun v => ⟨_, .tail .head, .tail .head⟩) ?_
        refine ev_loc (by assumption) (.tail _ (.tail _ (.tail _ (.head _)))) (.tail (.tail (.tail .head))) ?_
        refine ⟨a2, bs, (gridOf H.pts g ht.toNat w.toNat).map (·.map .int), rfl, .tail _ (.tail _ (.tail _ (.tail _ (.tail _ (.tail _ (.tail _ (.tail _ (.tail _ (.tail _ (.head _)))))))))), ?_, fun i b ys hb hy => ?_, ?_, fun a6 => ?_⟩
        · rw [List.length_map]; unfold gridOf; rw [List.length_map, List.length_range]; exact hbs
        · rw [List.getElem?_map] at hy
          cases hq : (gridOf H.pts g ht.toNat w.toNat)[i]? with
          | none => rw [hq] at hy; cases hy
          | some y0 =>
            rw [hq] at hy
            obtain rfl := Option.some.inj hy
            exact .tail _ (.tail _ (.tail _ (.tail _ (.tail _ (.tail _ (.tail _ (.tail _ (.tail _ (.tail _ (.tail _ (grid_mem hb hq)))))))))))
        · rw [grid_flat]; exact Nat.le_trans (Nat.mul_le_mul (show ht.toNat ≤ 14 by omega) (show w.toNat ≤ 14 by omega)) (Nat.le_of_ble_eq_true rfl)
        have hF : (gridOf H.pts g ht.toNat w.toNat).flatten.length ≤ 200 := by
          have h0 := grid_flat (lp := H.pts) (g := g) (h := ht.toNat) (w := w.toNat)
          rw [List.length_flatten, List.map_map] at h0
          rw [List.length_flatten]
          have e : List.map (List.length ∘ fun x => List.map AV.int x) (gridOf H.pts g ht.toNat w.toNat) = List.map List.length (gridOf H.pts g ht.toNat w.toNat) := by
            apply List.map_congr_left; intro x _; exact List.length_map ..
          rw [← e, h0]
          exact Nat.le_trans (Nat.mul_le_mul (show ht.toNat ≤ 14 by omega) (show w.toNat ≤ 14 by omega)) (Nat.le_of_ble_eq_true rfl)
        rw [show ((gridOf H.pts g ht.toNat w.toNat).map (fun x => List.map AV.int x)).flatten = (gridOf H.pts g ht.toNat w.toNat).flatten.map .int by rw [List.map_flatten]]
        refine o2_list (.tail _ (.head _)) (.head _) (by rw [List.length_replicate, List.length_map]; omega) fun a7 => ?_
        obtain ⟨ks, hks⟩ : ∃ ks, ks = List.replicate (min 1 (w * ht)).toNat g ++ (gridOf H.pts g ht.toNat w.toNat).flatten := ⟨_, rfl⟩
        have hkl : ks.length ≤ 300 := by rw [hks, List.length_append, List.length_replicate]; omega
        have hkm : ∀ k, k ∈ ks ↔ (k = g ∧ 0 < w ∧ 0 < ht) ∨ ∃ row ∈ gridOf H.pts g ht.toNat w.toNat, k ∈ row := fun k => by
          have hwh' : 0 < w * ht ↔ 0 < w ∧ 0 < ht := ⟨fun q => by
              constructor
              · rcases Int.lt_or_eq_of_le hwh.1.1 with h | h
                · exact h
                · rw [← h, Int.zero_mul] at q; exact (Int.lt_irrefl _ q).elim
              · rcases Int.lt_or_eq_of_le hwh.2.1 with h | h
                · exact h
                · rw [← h, Int.mul_zero] at q; exact (Int.lt_irrefl _ q).elim, fun q => Int.mul_pos q.1 q.2⟩
          rw [hks, List.mem_append, List.mem_replicate, List.mem_flatten, ← hwh', and_comm]
          exact or_congr (and_congr Iff.rfl (by omega)) Iff.rfl
        rw [show List.replicate (min 1 (w * ht)).toNat (AV.int g) ++ (gridOf H.pts g ht.toNat w.toNat).flatten.map .int = ks.map .int by rw [hks, List.map_append, List.map_replicate]]
        refine ⟨_, _, fun j l' => ∃ (vn : Option AV) (cl : List (Int × List Int)), l' = lst a7 (ks.map .int) :: lst a6 ((gridOf H.pts g ht.toNat w.toNat).flatten.map .int) :: lst a5 (List.replicate (min 1 (w * ht)).toNat (.int g)) :: lst a4 [.int g] :: dicI C cb (colsA cl) :: ns env.locals [Str.ofString "sheet", Str.ofString "height", Str.ofString "last", Str.ofString "rows", Str.ofString "colours", Str.ofString "number"] [some (.ref a), some (.int ht), vl, some (.ref a2), some (.ref cb), vn] :: cel cw (some (.int w)) :: cel cp (some (.ref dp)) :: cel cg (some (.int g)) :: sht C most a dp dt H (lst a2 (bs.map .ref) :: (grid bs (gridOf H.pts g ht.toNat w.toNat) ++ l)) ∧
          (cl.map (·.1)).Nodup ∧ cl.length ≤ H.told.length + j ∧ ∀ k, dget cl k = colAt H.told (fun k => decide (0 ≤ k ∧ k ∈ ks.take j)) k, .list (.head _), ?_, fun j y l' hy hI => ?_, fun l' hI => ?_⟩
        · refine ⟨none, H.told, rfl, ?_, Nat.le_refl _, fun k => ?_⟩
          · unfold colsA at hnC; rw [List.map_map] at hnC; exact hnC
          · unfold colAt
            split
            · assumption
            · simpa using (by assumption)
        · obtain ⟨vn, cl, rfl, c1, c2, c3⟩ := hI
          refine ⟨.list (.head _), ?_⟩
          have hks : ∃ k, ks[j]? = some k ∧ y = .int k := by
            rw [List.getElem?_map] at hy
            cases hq : ks[j]? with
            | none => rw [hq] at hy; cases hy
            | some k => rw [hq] at hy; exact ⟨k, rfl, (Option.some.inj hy).symm⟩
          obtain ⟨k, hkj, rfl⟩ := hks
          have hlt : ks.take (j + 1) = ks.take j ++ [k] := by rw [List.take_add_one, hkj]; rfl
          have hj : j < ks.length := (List.getElem?_eq_some_iff.mp hkj).1
          have eG : dget (colsA cl) k = (dget cl k).map triA := dget_map triA cl k
          refine as_name ?_
          refine st_loc (by assumption) ((.tail (.tail (.tail (.tail (.tail .head)))))) ((.tail (.tail (.tail (.tail (.tail .head)))))) ?_
          refine ex_if ?_
          refine tr_is (p := 0 ≤ k ∧ dget cl k = none) ?_ ?_
          · refine tr_and ?_
            refine tr_cmp ?_
            refine ev_loc (by assumption) (.tail _ (.tail _ (.tail _ (.tail _ (.tail _ (.head _)))))) (.tail (.tail (.tail (.tail (.tail .head))))) ?_
            refine ev_int ?_
            refine c2_ge ?_
            refine ⟨_, .bool _, ?_⟩
            refine dec_split (fun hc => ?_) (fun hc => ?_)
            · refine tr_and ?_
              refine tr_cmp ?_
              refine ev_loc (by assumption) (.tail _ (.tail _ (.tail _ (.tail _ (.tail _ (.head _)))))) (.tail (.tail (.tail (.tail (.tail .head))))) ?_
              refine ev_loc (by assumption) (.tail _ (.tail _ (.tail _ (.tail _ (.tail _ (.head _)))))) (.tail (.tail (.tail (.tail .head)))) ?_
              refine c2_notin_dict (.tail _ (.tail _ (.tail _ (.tail _ (.head _))))) (keyI k) ?_
              refine ⟨_, .bool _, ?_⟩
              refine ⟨fun hc => ?_, fun hc => ?_⟩
              · have hnone : dget cl k = none := by
                  cases hq : dget cl k with
                  | none => rfl
                  | some x => rw [eG, hq] at hc; cases hc
                refine tr_and_nil ?_
                exact ⟨(decide_eq_true ⟨by assumption, hnone⟩).symm, rfl⟩
              · have hsome : ¬ dget cl k = none := fun hq => by rw [eG, hq] at hc; cases hc
                exact ⟨(decide_eq_false fun q => hsome q.2).symm, rfl⟩
            · skip
              exact ⟨(decide_eq_false fun q => absurd q.1 (by assumption)).symm, rfl⟩
          refine dec_split (fun hU => ?_) (fun hU => ?_)
          · refine ex_sub ?_
            refine ev_sub ?_
            refine ev_glob (by assumption) (.tail _ (.tail _ (.tail _ (.tail _ (.head _))))) (gv_palette _) ?_
            refine ev_bin ?_
            refine ev_loc (by assumption) (.tail _ (.tail _ (.tail _ (.tail _ (.tail _ (.head _)))))) (.tail (.tail (.tail (.tail (.tail .head))))) ?_
            refine ev_int ?_
            refine o2_mod (by omega) ?_
            refine gi_tup (pal_at k) (Nat.le_of_ble_eq_true rfl) ?_
            refine ev_loc (by assumption) (.tail _ (.tail _ (.tail _ (.tail _ (.tail _ (.head _)))))) (.tail (.tail (.tail (.tail .head)))) ?_
            refine ev_loc (by assumption) (.tail _ (.tail _ (.tail _ (.tail _ (.tail _ (.head _)))))) (.tail (.tail (.tail (.tail (.tail .head))))) ?_
            refine si_dict (.tail (.tail (.tail (.tail .head)))) (keyI k) ?_ ?_
            · have := G.cl
              unfold colsA; rw [List.length_map]; omega
            refine ex_nil ?_
            refine next_is ?_
            refine ex_nil ?_
            have e2 : dput (colsA cl) k (triA (firstCol k)) = colsA (dput cl k (firstCol k)) := dput_map triA cl k (firstCol k)
            rw [e2]
            refine .inl ⟨rfl, _, dput cl k (firstCol k), rfl, dput_nodup c1, Nat.le_trans (dput_length ..) (Nat.succ_le_succ c2), fun q => ?_⟩
            rw [hlt, colAt_stepL, dget_dput, ← c3 q]
            by_cases e : q = k
            · subst e
              have ht : dget H.told q = none := by
                have := c3 q
                rw [hU.2] at this
                unfold colAt at this
                cases hq : dget H.told q with
                | none => rfl
                | some x => rw [hq] at this; cases this
              rw [if_pos rfl, if_pos ⟨hU.1, ht, rfl⟩]
            · rw [if_neg e, if_neg fun q => e q.2.2]
          · refine ex_nil ?_
            refine next_is ?_
            refine ex_nil ?_
            refine .inl ⟨rfl, _, cl, rfl, c1, by omega, fun q => ?_⟩
            rw [hlt, colAt_stepL, c3 q]
            split
            · rename_i e
              obtain ⟨e0, e1, rfl⟩ := e
              have hsome : dget cl q ≠ none := fun e => hU ⟨e0, e⟩
              rw [c3] at hsome
              unfold colAt at hsome ⊢
              rw [e1] at hsome ⊢
              dsimp only at hsome ⊢
              split
              · rfl
              · rename_i hx; rw [if_neg hx] at hsome; exact (hsome rfl).elim
            · rfl
        · obtain ⟨vn, cl, rfl, c1, c2, c3⟩ := hI
          refine ⟨.list (.head _), ?_⟩
          rw [List.length_map, List.take_length] at *
          refine ex_ret ?_
          refine ev_tup ?_
          refine ar_cons ?_
          refine ev_cel (by assumption) (.head _) (.tail _ (.tail _ (.tail _ (.tail _ (.tail _ (.tail _ (.head _))))))) ?_
          refine ar_cons ?_
          refine ev_loc (by assumption) (.tail _ (.tail _ (.tail _ (.tail _ (.tail _ (.head _)))))) (.tail .head) ?_
          refine ar_cons ?_
          refine ev_loc (by assumption) (.tail _ (.tail _ (.tail _ (.tail _ (.tail _ (.head _)))))) (.tail (.tail (.tail .head))) ?_
          refine ar_cons ?_
          refine ev_loc (by assumption) (.tail _ (.tail _ (.tail _ (.tail _ (.tail _ (.head _)))))) (.tail (.tail (.tail (.tail .head)))) ?_
          refine ar_cons ?_
          refine ev_sub ?_
          refine ev_loc (by assumption) (.tail _ (.tail _ (.tail _ (.tail _ (.tail _ (.head _)))))) .head ?_
          refine ev_str ?_
          refine gi_dicS (.tail _ (.tail _ (.tail _ (.tail _ (.tail _ (.tail _ (.tail _ (.tail _ (.tail _ (.head _)))))))))) ((.tail (.tail (.tail (.tail (.tail (.tail (.tail (.tail (.tail (.tail .head))))))))))) ?_
          refine ar_nil ?_
          refine ⟨Nat.le_of_ble_eq_true rfl, ?_⟩
          refine ⟨_, _, .ret, .trans (.sub (.cons _ (.cons _ (.cons _ (.cons _ (.cons_cons _ (.cons _ (.cons _ (.cons _ (.cons _ (.refl _))))))))))) (.pick (.tail (.tail (.tail (.tail .head)))) (Gives.past (G := [_, _, _, _]))), h a2 cb bs cl hbs c1 (by have := G.cl; omega) fun k => ?_⟩
          rw [c3]
          congr 1
          funext k
          exact decide_eq_decide.mpr (and_congr Iff.rfl (hkm k))
end Mine
end
section
open PySem PySem.W PySem.Calls PyProof.Rows
namespace Mine
noncomputable def ordsOf (x : Str) : List Int := x.cps.toList.map fun c : Nat => (c : Int)
theorem take_new {cl : List (Int × List Int)} {j : Nat} {k : Int} {t : List Int} (hn : (cl.map (·.1)).Nodup) (h : cl[j]? = some (k, t)) : k ∉ (colsA (cl.take j)).map (·.1) := by
  obtain ⟨hi, e⟩ := List.getElem?_eq_some_iff.mp h
  have e2 : cl = cl.take j ++ (k, t) :: cl.drop (j + 1) := by rw [← e, List.getElem_cons_drop, List.take_append_drop]
  rw [e2, List.map_append, List.nodup_append] at hn
  unfold colsA
  rw [List.map_map]
  exact fun q => hn.2.2 _ q _ (.head _) rfl
theorem dget_some {K γ : Type} [DecidableEq K] {kv : List (K × γ)} {k : K} {x : γ} (h : dget kv k = some x) : (k, x) ∈ kv := by
  induction kv with
  | nil => cases h
  | cons p r ih =>
    rw [dget_cons] at h
    split at h
    · rename_i e; subst e; cases h; exact .head _
    · exact .tail _ (ih h)
noncomputable def Two (P : AV → AV → Prop) (xs ys : List AV) : Prop := ∀ (j : Nat) (x z : AV), xs[j]? = some x → ys[j]? = some z → P x z
theorem Two.nil {P : AV → AV → Prop} : Two P [] [] := fun _ _ _ h => by simp at h
theorem Two.cons {P : AV → AV → Prop} {a b : AV} {xs ys : List AV} (h : P a b) (t : Two P xs ys) : Two P (a :: xs) (b :: ys) := fun j x z hx hz => by
  cases j with
  | zero => cases hx; cases hz; exact h
  | succ j => exact t j x z hx hz
theorem eqd_lst {C : Cx} {f : PH} {s : Shared} {n : Nat} {L : List Ent} {a b : Addr} {xs ys : List AV} (S : St C f L s) (h1 : lst a xs ∈ L) (h2 : lst b ys ∈ L) (hl : xs.length = ys.length)
    (he : ∀ (j : Nat) (x z : AV) (u w : Value), xs[j]? = some x → ys[j]? = some z → Is f x u → Is f z w → EqD s n u w) : EqD s (n + 1) (.ref a) (.ref b) := by
  obtain ⟨ws, m, hm, hi⟩ := S.isL h1
  obtain ⟨us, k, hk, hj⟩ := S.isL h2
  have e1 := hi.length
  have e2 := hj.length
  rw [Array.length_toList] at e1 e2
  refine eqd_list hm hk (by omega) fun j q1 q2 => ?_
  obtain ⟨u, hu, hiu⟩ := hi.get (List.getElem?_eq_getElem (show j < xs.length by omega))
  obtain ⟨w, hw, hiw⟩ := hj.get (List.getElem?_eq_getElem (show j < ys.length by omega))
  have g1 : ws[j] = u := by rw [Array.getElem?_toList, Array.getElem?_eq_getElem q1] at hu; exact Option.some.inj hu
  have g2 : us[j] = w := by rw [Array.getElem?_toList, Array.getElem?_eq_getElem q2] at hw; exact Option.some.inj hw
  rw [g1, g2]
  exact he j _ _ u w (List.getElem?_eq_getElem _) (List.getElem?_eq_getElem _) hiu hiw
theorem eqd_ints {f : PH} {s : Shared} {ns : List Int} {j : Nat} {x z : AV} {u w : Value} (hx : (ns.map AV.int)[j]? = some x) (hz : (ns.map AV.int)[j]? = some z) (hu : Is f x u) (hw : Is f z w) : EqD s 0 u w := by
  rw [hx] at hz
  obtain rfl := Option.some.inj hz
  rw [List.getElem?_map] at hx
  cases hq : ns[j]? with
  | none => rw [hq] at hx; cases hx
  | some k => rw [hq] at hx; obtain rfl := Option.some.inj hx; exact eqd_int hu hw
theorem ref_at {bs : List Addr} {j : Nat} {x : AV} (h : (bs.map AV.ref)[j]? = some x) : ∃ b, bs[j]? = some b ∧ x = .ref b := by
  rw [List.getElem?_map] at h
  cases hq : bs[j]? with
  | none => rw [hq] at h; cases h
  | some b => rw [hq] at h; exact ⟨b, rfl, (Option.some.inj h).symm⟩
theorem rows_eq {C : Cx} {f : PH} {s : Shared} {L : List Ent} {a b : Addr} {b1 b2 : List Addr} {M : List (List Int)} (S : St C f L s) (h1 : lst a (b1.map .ref) ∈ L) (h2 : lst b (b2.map .ref) ∈ L) (l1 : b1.length = M.length) (l2 : b2.length = M.length)
    (g1 : ∀ (i : Nat) (b : Addr) (x : List Int), b1[i]? = some b → M[i]? = some x → lst b (x.map .int) ∈ L) (g2 : ∀ (i : Nat) (b : Addr) (x : List Int), b2[i]? = some b → M[i]? = some x → lst b (x.map .int) ∈ L) : EqD s 2 (.ref a) (.ref b) := by
  refine eqd_lst S h1 h2 (by rw [List.length_map, List.length_map]; omega) fun j x z u w hx hz hu hw => ?_
  obtain ⟨c1, e1, rfl⟩ := ref_at hx
  obtain ⟨c2, e2, rfl⟩ := ref_at hz
  have hj : j < M.length := by rw [← l1]; exact (List.getElem?_eq_some_iff.mp e1).1
  have hm : M[j]? = some M[j] := List.getElem?_eq_getElem hj
  rw [hu.refE, hw.refE]
  exact eqd_lst S (g1 j c1 _ e1 hm) (g2 j c2 _ e2 hm) rfl fun k x z u w hx hz hu hw => eqd_ints hx hz hu hw
theorem cols_eq {C : Cx} {f : PH} {s : Shared} {L : List Ent} {a b : Addr} {c1 c2 : List (Int × List Int)} {o1 o2 : Option Nat} (S : St C f L s) (h1 : dicI C a (colsA c1) o1 ∈ L) (h2 : dicI C b (colsA c2) o2 ∈ L) (n1 : (c1.map (·.1)).Nodup) (n2 : (c2.map (·.1)).Nodup)
    (h : ∀ k, dget c1 k = dget c2 k) : EqD s 2 (.ref a) (.ref b) := by
  have key : ∀ {x y : List (Int × List Int)}, (x.map (·.1)).Nodup → (∀ k, dget x k = dget y k) → x.length ≤ y.length := fun {x y} hn hs => by
    have := nodup_le (a := x.map (·.1)) (b := y.map (·.1)) hn fun k hk => Classical.not_not.mp fun q => dget_none.mp ((hs k).trans (dget_none.mpr q)) hk
    rwa [List.length_map, List.length_map] at this
  refine eqd_dict S h1 h2 ?_ fun k x hkx => ?_
  · unfold colsA; rw [List.length_map, List.length_map]
    exact Nat.le_antisymm (key n1 h) (key n2 fun k => (h k).symm)
  · obtain ⟨p, hp, e⟩ := List.mem_map.mp hkx
    cases e
    have hd : dget c2 p.1 = some p.2 := by rw [← h]; exact dget_mem n1 hp
    refine ⟨triA p.2, ?_, fun u w hu hw => eqd_tup S hu hw rfl fun j x z u w hx hz hu hw => eqd_ints hx hz hu hw⟩
    rw [show dget (colsA c2) p.1 = (dget c2 p.1).map triA from dget_map triA c2 p.1, hd]; rfl
structure Agree (most : Int) (x : Str) (lp : ZP) (T : RS) (H : SH) : Prop where
  hT : endI most (runI most (octs (byteArr (ordsOf x)))) = T
  hH : readL most x.cps.toList x.length = H
  geo : Geo most T lp
  geoL : GeoL most H
  pts : H.pts = lp
  shape : shapeI T.told T.width T.bands most lp = shapeL most H
  asp : T.asp = H.asp
  cols : ∀ k, dget T.cols k = dget H.told k
  nn : ∀ p ∈ lp, 0 ≤ p.2
theorem seen_iff {fl : Bool} {gr w ht : Int} {lp : ZP} (hg : gr = if fl then 0 else -1) (nd : (lp.map (·.1)).Nodup) (nn : ∀ p ∈ lp, 0 ≤ p.2) (inn : ∀ p ∈ lp, 0 ≤ p.1.1 ∧ p.1.1 < ht ∧ 0 ≤ p.1.2 ∧ p.1.2 < w) (k : Int) :
    ((fl = true ∧ 0 < w ∧ 0 < ht ∧ k = 0) ∨ k ∈ lp.map (·.2)) ↔ (0 ≤ k ∧ ((k = gr ∧ 0 < w ∧ 0 < ht) ∨ ∃ row ∈ gridOf lp gr ht.toNat w.toNat, k ∈ row)) := by
  constructor
  · rintro (⟨h1, h2, h3, rfl⟩ | h)
    · exact ⟨Int.le_refl _, .inl ⟨by rw [hg, if_pos h1], h2, h3⟩⟩
    · obtain ⟨p, hp, rfl⟩ := List.mem_map.mp h
      obtain ⟨i1, i2, i3, i4⟩ := inn p hp
      refine ⟨nn p hp, .inr ⟨rowOf lp gr w.toNat p.1.1.toNat, List.mem_map.mpr ⟨_, List.mem_range.mpr (by omega), rfl⟩, List.mem_map.mpr ⟨p.1.2.toNat, List.mem_range.mpr (by omega), ?_⟩⟩⟩
      unfold cellAt
      rw [Int.toNat_of_nonneg i1, Int.toNat_of_nonneg i3, dget_mem (k := (p.1.1, p.1.2)) (x := p.2) nd hp]; rfl
  · rintro ⟨h0, ⟨rfl, h2, h3⟩ | ⟨row, hr, hk⟩⟩
    · left
      cases fl
      · rw [hg] at h0; exact absurd h0 (by decide)
      · exact ⟨rfl, h2, h3, hg⟩
    · obtain ⟨r, hr1, rfl⟩ := List.mem_map.mp hr
      obtain ⟨c, hc1, rfl⟩ := List.mem_map.mp hk
      rw [List.mem_range] at hr1 hc1
      unfold cellAt at h0 ⊢
      cases hq : dget lp ((r : Int), (c : Int)) with
      | some v => right; exact List.mem_map.mpr ⟨_, dget_some hq, rfl⟩
      | none =>
        left
        rw [hq] at h0
        change 0 ≤ gr at h0
        cases fl
        · rw [hg] at h0; exact absurd h0 (by decide)
        · exact ⟨rfl, by omega, by omega, hg⟩
theorem most_at {v : Int} (h0 : 0 ≤ v) (h1 : v < 6) : ∃ m : Int, At [AV.int 12, .int 1, .int 5, .int 6, .int 7, .int 14] v (.int m) ∧ 1 ≤ m ∧ m ≤ 14 := by
  have h : v = 0 ∨ v = 1 ∨ v = 2 ∨ v = 3 ∨ v = 4 ∨ v = 5 := by omega
  rcases h with rfl | rfl | rfl | rfl | rfl | rfl
  · exact ⟨12, .pos (by decide) rfl, by decide, by decide⟩
  · exact ⟨1, .pos (by decide) rfl, by decide, by decide⟩
  · exact ⟨5, .pos (by decide) rfl, by decide, by decide⟩
  · exact ⟨6, .pos (by decide) rfl, by decide, by decide⟩
  · exact ⟨7, .pos (by decide) rfl, by decide, by decide⟩
  · exact ⟨14, .pos (by decide) rfl, by decide, by decide⟩
theorem two_bool {i : Nat} {y : AV} (h : [AV.bool false, .bool true][i]? = some y) : ∃ b, y = .bool b := by
  match i with
  | 0 => exact ⟨_, (Option.some.inj h).symm⟩
  | 1 => exact ⟨_, (Option.some.inj h).symm⟩
set_option maxRecDepth 20000 in
set_option maxHeartbeats 2000000 in
theorem law_spec {C : Cx} {A : Around} {n : Nat} {sa : Addr} {ws : Array Value} {ls : List Int} (r : Room A (n + 20)) (hb : C.h0.IsList sa ws) (hi : IntsAre ws.toList ls) (hl : ls.length ≤ 63) (hw : ws.size ≤ 16777216)
    (PL : ∀ most x, 1 ≤ most → most ≤ 14 → Pc x 854 336 → ∃ lp T H, Agree most x lp T H) : Wn C A Is [] [.ref sa] (fun vs => call (.ref 200) vs) fun v _ => v = .bool true := by
  have ho : (Kf C).lookup 200 = some _ := rfl
  refine call_cels (fd := _) (body := _) (params := [Str.ofString "script"]) (names := [Str.ofString "script", Str.ofString "most", Str.ofString "text", Str.ofString "sheet", Str.ofString "is_filled", Str.ofString "found", Str.ofString "rows", Str.ofString "colours", Str.ofString "number", Str.ofString "due"]) (cn := [Str.ofString "tape"]) (vals := [some (.ref sa), none, none, none, none, none, none, none, none, none]) (cvals := [none]) (n := n + 19)
    ⟨⟨_, C.kin _ _ ho, rfl⟩, codeRec_of C.kin rfl, rfl, rfl, rfl, rfl, rfl, rfl, rfl⟩ r (fun vs hl => ?_) rfl rfl rfl (by decide) (by decide) (by decide) (by decide) (.some .head (.none (.none (.none (.none (.none (.none (.none (.none (.none .nil)))))))))) (.none .nil) fun env cl hcl E r' => ?_
  · obtain ⟨x, rfl⟩ := len1 hl
    exact rfl
  · clear ho
    obtain ⟨ct, rfl⟩ := cl1 hcl
    have hT := E.loc (names := [Str.ofString "script", Str.ofString "most", Str.ofString "text", Str.ofString "sheet", Str.ofString "is_filled", Str.ofString "found", Str.ofString "rows", Str.ofString "colours", Str.ofString "number", Str.ofString "due"]) rfl rfl
    have hG := E.glob (names := [Str.ofString "list", Str.ofString "range", Str.ofString "_law_next", Str.ofString "_law_read", Str.ofString "read_sixel", Str.ofString "bytes", Str.ofString "_law_shown", Str.ofString "tuple"]) rfl rfl
    have hC := E.cel rfl rfl (List.nodup_cons.mpr ⟨List.not_mem_nil, List.nodup_nil⟩)
    have hI := E.inter rfl
    have hK := cls_raster C
    show WF C _ (ns env.locals [Str.ofString "script", Str.ofString "most", Str.ofString "text", Str.ofString "sheet", Str.ofString "is_filled", Str.ofString "found", Str.ofString "rows", Str.ofString "colours", Str.ofString "number", Str.ofString "due"] [some (.ref sa), none, none, none, none, none, none, none, none, none] :: cel ct none :: []) _ _
    refine ex_assign ?_
    refine ev_rev ?_
    refine ev_callT (ev_glob (by assumption) (.head _) (gv_list _) ⟨_, rfl, ?_⟩)
    refine ar_cons ?_
    refine ev_cut hb hi hw hl ?_
    refine ev_loc (by assumption) (.head _) .head ?_
    refine ⟨rfl, ?_⟩
    refine ev_int ?_
    refine ⟨rfl, fun b0 ms0 z0 => ?_⟩
    refine ar_nil ?_
    refine t_list_list (.head _) (by rw [List.length_map]; omega) fun b1 => ?_
    refine ⟨_, ms0, rfl, .head _, by omega, ?_⟩
    refine ev_un ?_
    refine ev_int ?_
    refine o1_neg ?_
    refine ⟨rfl, .head _, fun b2 ms2 z2 => ?_⟩
    refine st_cel (by assumption) (.head _) ((.tail (.tail (.tail (.tail .head))))) ?_
    refine ex_assign ?_
    refine ev_sub ?_
    refine ev_tup ?_
    refine ar_cons ?_
    refine ev_int ?_
    refine ar_cons ?_
    refine ev_int ?_
    refine ar_cons ?_
    refine ev_int ?_
    refine ar_cons ?_
    refine ev_int ?_
    refine ar_cons ?_
    refine ev_int ?_
    refine ar_cons ?_
    refine ev_int ?_
    refine ar_nil ?_
    refine ⟨Nat.le_of_ble_eq_true rfl, ?_⟩
    refine ev_callK (ev_glob (by assumption) (.tail _ (.tail _ (.head _))) (gv_next _) ⟨_, rfl, rfl, ?_⟩)
    refine ar_cons ?_
    refine ev_cel (by assumption) (.head _) (.tail _ (.tail _ (.tail _ (.tail _ (.head _))))) ?_
    refine ar_cons ?_
    refine ev_int ?_
    refine ar_nil ?_
    refine .gives (l' := lst b2 (ms2.map .int) :: ns env.locals [Str.ofString "script", Str.ofString "most", Str.ofString "text", Str.ofString "sheet", Str.ofString "is_filled", Str.ofString "found", Str.ofString "rows", Str.ofString "colours", Str.ofString "number", Str.ofString "due"] [some (.ref sa), none, none, none, none, none, none, none, none, none] :: cel ct (some (.ref b2)) :: []) ?_ ?_
    · exact (.pick .head (.pick (.tail (.tail .head)) (.pick (.tail (.tail .head)) (.tails (.tails .rfl)))))
    refine next_spec (n := n + 18) r' (by decide) (by omega) fun v ms3 v0 v1 z3 => ?_
    obtain ⟨most, hm, m1, m2⟩ := most_at v0 v1
    refine gi_tup hm (Nat.le_of_ble_eq_true rfl) ?_
    refine st_loc (by assumption) ((.tail .head)) ((.tail .head)) ?_
    refine ex_assign ?_
    refine .gives (l' := lst b2 (ms3.map .int) :: ns env.locals [Str.ofString "script", Str.ofString "most", Str.ofString "text", Str.ofString "sheet", Str.ofString "is_filled", Str.ofString "found", Str.ofString "rows", Str.ofString "colours", Str.ofString "number", Str.ofString "due"] [some (.ref sa), some (.int most), none, none, none, none, none, none, none, none] :: cel ct (some (.ref b2)) :: []) ?_ ?_
    · exact (.pick .head (.pick .head (.pick .head .rfl)))
    refine ev_bm bm_join ?_
    refine ev_str ?_
    refine ⟨.str, ?_⟩
    refine ar_cons ?_
    refine ev_comp1 (cl' := [(Str.ofString "tape", ct)]) (names := [Str.ofString "piece"]) r' E rfl (by decide) rfl (by decide) (by decide) ?_
    refine ev_callT (ev_glob (by assumption) (.tail _ (.head _)) (gv_range _) ⟨_, rfl, ?_⟩)
    refine ar_cons ?_
    refine ev_callK (ev_glob (by assumption) (.tail _ (.tail _ (.head _))) (gv_next _) ⟨_, rfl, rfl, ?_⟩)
    refine ar_cons ?_
    refine ev_cel (by assumption) (.head _) (.tail _ (.tail _ (.head _))) ?_
    refine ar_cons ?_
    refine ev_int ?_
    refine ar_nil ?_
    have hz3 : ms3.length ≤ 63 := by omega
    refine next_spec (n := n + 18) (many := 15) (ms := ms3) r' (by decide) (by omega) fun w ms4 w0 w1 z4 => ?_
    refine ar_nil ?_
    refine b_range1 fun rr => ?_
    have hR1 : RB 0 w := .of0 (by omega) (by omega)
    refine ⟨_, _, fun i ys l' => ∃ (xs : List Str) (ms5 : List Int), l' = rng rr 0 w :: lst b2 (ms5.map .int) :: ns env.locals [Str.ofString "script", Str.ofString "most", Str.ofString "text", Str.ofString "sheet", Str.ofString "is_filled", Str.ofString "found", Str.ofString "rows", Str.ofString "colours", Str.ofString "number", Str.ofString "due"] [some (.ref sa), some (.int most), none, none, none, none, none, none, none, none] :: cel ct (some (.ref b2)) :: [] ∧ ys = xs.map .str ∧ (∀ x ∈ xs, Pc x 61 24) ∧ ms5.length ≤ 63,
      .rng (.head _) hR1, by rw [range_len]; omega, ⟨[], ms4, rfl, rfl, fun _ h => (nomatch h), by omega⟩, fun cenv Ec i y ys l' hy hI => ?_, fun ys l' hI hl => ?_⟩
    · obtain ⟨xs, ms5, rfl, rfl, hp, z5⟩ := hI
      obtain ⟨hi, rfl⟩ := range_at hy
      refine ⟨.rng (.head _) hR1, ?_⟩
      have hT := Ec.loc (names := [Str.ofString "piece"]) rfl rfl
      have hG := Ec.glob (names := [Str.ofString "_law_piece"]) rfl rfl
      have hC := Ec.cel rfl rfl (List.nodup_cons.mpr ⟨List.not_mem_nil, List.nodup_nil⟩)
      show W1 C _ isEq (ns cenv.locals [Str.ofString "piece"] [none] :: _) _ _ _
      refine as_name ?_
      refine st_loc (by assumption) (.head) (.head) ?_
      refine ev_callK (ev_glob (by assumption) (.head _) (gv_piece _) ⟨_, rfl, rfl, ?_⟩)
      refine ar_cons ?_
      refine ev_cel (by assumption) (.head _) (.tail _ (.tail _ (.tail _ (.tail _ (.head _))))) ?_
      refine ar_nil ?_
      refine .gives (.pick (.tail (.tail .head)) .rfl) ?_
      refine piece_spec (n := n + 13) r' (by omega) fun x ms6 p6 z6 => ?_
      refine ⟨[some (.int (0 + (i : Int)))], _, .pick (.tail .head) (.pick (.tail .head) .rfl), xs ++ [x], ms6, rfl, ?_, fun z hz => ?_, by omega⟩
      · rw [List.map_append]; rfl
      · rcases List.mem_append.mp hz with hz | hz
        · exact hp z hz
        · rw [List.mem_singleton.mp hz]; exact p6
    · obtain ⟨xs, ms5, rfl, rfl, hp, z5⟩ := hI
      refine ⟨.rng (.head _) hR1, fun a2 => ?_⟩
      rw [List.length_map, range_len] at hl
      refine ar_nil ?_
      have hJ := Pc.joinE hp
      have hxl : xs.length ≤ 14 := by omega
      refine m_join (.head _) ?_ ?_
      · have e1 : (Str.ofString "").length = 0 := by decide
        have := pc_sum hp
        rw [e1]; omega
      · have eJ : Txt.join (Str.ofString "") xs = Str.join (Str.ofString "") xs := StrLaws.glued_eq_join _ _
        rw [eJ]
        have hx : Pc (Str.join (Str.ofString "") xs) 854 336 := hJ.mono (by omega) (by omega)
        generalize Str.join (Str.ofString "") xs = x at hx
        clear hJ
        refine st_loc (by assumption) ((.tail (.tail (.tail .head)))) ((.tail (.tail .head))) ?_
        refine ex_assign ?_
        refine ev_callK (ev_glob (by assumption) (.tail _ (.tail _ (.tail _ (.head _)))) (gv_lread _) ⟨_, rfl, rfl, ?_⟩)
        refine ar_cons ?_
        refine ev_loc (by assumption) (.tail _ (.tail _ (.tail _ (.head _)))) (.tail (.tail .head)) ?_
        refine ar_cons ?_
        refine ev_loc (by assumption) (.tail _ (.tail _ (.tail _ (.head _)))) (.tail .head) ?_
        refine ar_nil ?_
        refine .gives (l' := ns env.locals [Str.ofString "script", Str.ofString "most", Str.ofString "text", Str.ofString "sheet", Str.ofString "is_filled", Str.ofString "found", Str.ofString "rows", Str.ofString "colours", Str.ofString "number", Str.ofString "due"] [some (.ref sa), some (.int most), some (.str x), none, none, none, none, none, none, none] :: []) ?_ ?_
        · exact (.pick (.tail (.tail (.tail .head))) (.tails (.tails (.tails (.tails .rfl)))))
        refine lread_spec (n := n + 12) r' (hx.mono (by decide) (by decide)) m1 m2 fun a dp dt => ?_
        obtain ⟨lp, T, H, AG⟩ := PL most x m1 m2 hx
        rw [AG.hH]
        have hxo : x.cps.toList.length ≤ 854 := by rw [Array.length_toList]; exact hx.len
        refine st_loc (by assumption) ((.tail (.tail (.tail .head)))) ((.tail (.tail (.tail .head)))) ?_
        refine ex_for r' ?_
        refine ev_tup ?_
        refine ar_cons ?_
        refine ev_bool ?_
        refine ar_cons ?_
        refine ev_bool ?_
        refine ar_nil ?_
        refine ⟨Nat.le_of_ble_eq_true rfl, ?_⟩
        refine ⟨.tup, [.bool false, .bool true], fun i l' => ∃ v5 v6 v7 v8 v9 v10, Gives l' (ns env.locals [Str.ofString "script", Str.ofString "most", Str.ofString "text", Str.ofString "sheet", Str.ofString "is_filled", Str.ofString "found", Str.ofString "rows", Str.ofString "colours", Str.ofString "number", Str.ofString "due"] [some (.ref sa), some (.int most), some (.str x), some (.ref a), v5, v6, v7, v8, v9, v10] :: sht C most a dp dt H []), .tup, ?_, fun i y l' hy hI => ?_, fun l' hI => ?_⟩
        · refine ⟨none, none, none, none, none, none, ?_⟩
          exact (.pick (.tail (.tail (.tail .head))) (.pick .head (.pick .head (.pick .head .rfl))))
        · obtain ⟨v5, v6, v7, v8, v9, v10, hv⟩ := hI
          obtain ⟨fl, rfl⟩ := two_bool hy
          refine ⟨.tup, ?_⟩
          refine W1.gives hv ?_
          refine as_name ?_
          refine st_loc (by assumption) (.head) ((.tail (.tail (.tail (.tail .head))))) ?_
          refine ex_assign ?_
          refine ev_callK (ev_glob (by assumption) (.tail _ (.tail _ (.tail _ (.tail _ (.head _))))) (gv_read _) ⟨_, rfl, rfl, ?_⟩)
          refine ar_cons ?_
          refine ev_callT (ev_glob (by assumption) (.tail _ (.tail _ (.tail _ (.tail _ (.tail _ (.head _)))))) (gv_bytes _) ⟨_, rfl, ?_⟩)
          refine ar_cons ?_
          refine ev_map (γ := Nat) [] [Str.ofString "sign"] r' E rfl (by decide) rfl (by decide) (by decide) ?_
          refine ev_loc (by assumption) (.head _) (.tail (.tail .head)) ?_
          refine ⟨_, x.cps.toList, fun c => .str ⟨#[c]⟩, fun c => .int (c : Int), SrcOf.str, by omega, fun cenv Ec z hz => ?_, fun a3 => ?_⟩
          · have hT := Ec.loc (names := [Str.ofString "sign"]) rfl rfl
            have hG := Ec.glob (names := [Str.ofString "ord"]) rfl rfl
            show W1 C _ isEq (ns cenv.locals [Str.ofString "sign"] [none] :: _) _ _ _
            refine as_name ?_
            refine st_loc (by assumption) (.head) (.head) ?_
            refine ev_callB (ev_glob (by assumption) (.head _) (gv_ord _) ⟨_, rfl, ?_⟩)
            refine ar_cons ?_
            refine ev_loc (by assumption) (.head _) .head ?_
            refine ar_nil ?_
            refine b_ord ?_
            exact ⟨rfl, _, .rfl⟩
          · refine ar_nil ?_
            have eB : x.cps.toList.map (fun c : Nat => AV.int (c : Int)) = (ordsOf x).map .int := by unfold ordsOf; rw [List.map_map]; rfl
            have hB : (ordsOf x).length ≤ 854 := by unfold ordsOf; rw [List.length_map]; exact hxo
            rw [eB]
            refine t_bytes (ns := ordsOf x) r' (.head _) (fun k hk => ?_) (by omega) ?_
            · obtain ⟨c, hc, rfl⟩ := List.mem_map.mp hk
              exact ⟨Int.natCast_nonneg _, by have := hx.low c hc; omega⟩
            refine ar_cons ?_
            refine ev_loc (by assumption) (.tail _ (.head _)) (.tail .head) ?_
            refine ar_cons ?_
            refine ev_loc (by assumption) (.tail _ (.head _)) (.tail (.tail (.tail (.tail .head)))) ?_
            refine ar_nil ?_
            refine read_spec (n := n + 8) (T := T) r' m1 m2 (by rw [byteArr_size]; omega) AG.hT AG.geo fun q d' rr cc bs cl hbs hcn hcz hcl => ?_
            rw [AG.shape] at hbs hcl ⊢
            have hwh := geoL_shape AG.geoL
            generalize hsh : shapeL most H = sh at *
            obtain ⟨w, ht⟩ := sh
            dsimp only at *
            obtain ⟨gr, hgr⟩ : ∃ gr : Int, gr = if fl then 0 else -1 := ⟨_, rfl⟩
            rw [← hgr]
            refine W1.gives (l' := ns env.locals [Str.ofString "script", Str.ofString "most", Str.ofString "text", Str.ofString "sheet", Str.ofString "is_filled", Str.ofString "found", Str.ofString "rows", Str.ofString "colours", Str.ofString "number", Str.ofString "due"] [some (.ref sa), some (.int most), some (.str x), some (.ref a), some (.bool fl), v6, v7, v8, v9, v10] :: lst rr (bs.map .ref) :: dicI C cc (colsA cl) :: ins q 54 d' :: att d' QN (QV w ht rr cc T.asp) :: sht C most a dp dt H (grid bs (gridOf lp gr ht.toNat w.toNat) ++ [])) ?_ ?_
            · refine .trans (Gives.past (G := [_, _, _])) (.trans (Gives.past (p := [_, _, _, _, _, _, _, _, _]) (l := [])) ?_)
              exact .pick (.tail (.tail (.tail (.tail (.tail .head))))) (.pick (.tail (.tail .head)) (.pick (.tail (.tail .head)) (.pick .head (.pick .head (.tails .rfl)))))
            refine st_loc (by assumption) (.head) ((.tail (.tail (.tail (.tail (.tail .head)))))) ?_
            refine ex_swap (names := [Str.ofString "rows", Str.ofString "colours"]) r' ?_ ?_
            rotate_left
            · obtain ⟨e1, e2, e3, e4⟩ := E
              obtain ⟨sc, L, G, B, Ce, Co, Fr⟩ := env
              dsimp only at e1
              subst e1
              rfl
            refine ev_tup ?_
            refine ar_cons ?_
            refine ev_comp1 (cl' := []) (names := [Str.ofString "row"]) r' E rfl (by decide) rfl (by decide) (by decide) ?_
            refine ev_attr ?_
            refine ev_loc (by assumption) (.head _) (.tail (.tail (.tail (.tail (.tail .head))))) ?_
            refine ga_inst (by assumption) (.tail _ (.tail _ (.tail _ (.head _)))) (.tail _ (.tail _ (.tail _ (.tail _ (.head _))))) ((.tail (.tail .head))) rfl ?_
            refine ⟨_, _, fun i ys l' => ∃ (bs' : List Addr), bs'.length = i ∧ ys = bs'.map .ref ∧ l' = grid bs' ((gridOf lp gr ht.toNat w.toNat).take i) ++ (ns env.locals [Str.ofString "script", Str.ofString "most", Str.ofString "text", Str.ofString "sheet", Str.ofString "is_filled", Str.ofString "found", Str.ofString "rows", Str.ofString "colours", Str.ofString "number", Str.ofString "due"] [some (.ref sa), some (.int most), some (.str x), some (.ref a), some (.bool fl), some (.ref q), v7, v8, v9, v10] :: lst rr (bs.map .ref) :: dicI C cc (colsA cl) :: ins q 54 d' :: att d' QN (QV w ht rr cc T.asp) :: sht C most a dp dt H (grid bs (gridOf lp gr ht.toNat w.toNat) ++ [])), .list (.tail _ (.head _)), ?_, ⟨[], rfl, rfl, rfl⟩, fun cenv Ec i y ys l' hy hI => ?_, fun ys l' hI hl => ?_⟩
            · rw [List.length_map]; omega
            · obtain ⟨bs', hb', rfl, rfl⟩ := hI
              refine ⟨.list (List.mem_append_right _ (.tail _ (.head _))), ?_⟩
              rw [List.getElem?_map] at hy
              obtain ⟨b, hb, rfl⟩ : ∃ b, bs[i]? = some b ∧ y = .ref b := by
                cases hq : bs[i]? with
                | none => rw [hq] at hy; cases hy
                | some b => rw [hq] at hy; exact ⟨b, rfl, (Option.some.inj hy).symm⟩
              have hil : i < ht.toNat := by rw [← hbs]; exact (List.getElem?_eq_some_iff.mp hb).1
              have hm : (gridOf lp gr ht.toNat w.toNat)[i]? = some (rowOf lp gr w.toNat i) := by
                unfold gridOf; rw [List.getElem?_map, List.getElem?_range hil]; rfl
              have hT := Ec.loc (names := [Str.ofString "row"]) rfl rfl
              have hG := Ec.glob (names := [Str.ofString "list"]) rfl rfl
              show W1 C _ isEq (ns cenv.locals [Str.ofString "row"] [none] :: _) _ _ _
              refine as_name ?_
              refine st_loc (by assumption) (.head) (.head) ?_
              refine ev_callT (ev_glob (by assumption) (.head _) (gv_list _) ⟨_, rfl, ?_⟩)
              refine ar_cons ?_
              refine ev_loc (by assumption) (.head _) .head ?_
              refine ar_nil ?_
              refine t_list_list (.tail _ (List.mem_append_right _ (.tail _ (.tail _ (.tail _ (.tail _ (.tail _ (.tail _ (.tail _ (.tail _ (grid_mem hb hm))))))))))) (by unfold rowOf; rw [List.length_map, List.length_map, List.length_range]; omega) fun c => ?_
              refine ⟨[some (.ref b)], _, .pick (.tail .head) (grid_new ?_), bs' ++ [c], ?_, ?_, ?_⟩
              · rw [List.length_take, hb']; unfold gridOf; rw [List.length_map, List.length_range]; omega
              · rw [List.length_append, hb']; rfl
              · rw [List.map_append]; rfl
              · rw [List.take_add_one, hm]; rfl
            · obtain ⟨bs', hb', rfl, rfl⟩ := hI
              refine ⟨.list (List.mem_append_right _ (.tail _ (.head _))), fun a4 => ?_⟩
              rw [List.length_map, hbs] at hb' ⊢
              have e3 : (gridOf lp gr ht.toNat w.toNat).take ht.toNat = gridOf lp gr ht.toNat w.toNat := List.take_of_length_le (by unfold gridOf; rw [List.length_map, List.length_range]; exact Nat.le_refl _)
              rw [e3]
              refine .gives (l' := ns env.locals [Str.ofString "script", Str.ofString "most", Str.ofString "text", Str.ofString "sheet", Str.ofString "is_filled", Str.ofString "found", Str.ofString "rows", Str.ofString "colours", Str.ofString "number", Str.ofString "due"] [some (.ref sa), some (.int most), some (.str x), some (.ref a), some (.bool fl), some (.ref q), v7, v8, v9, v10] :: lst a4 (bs'.map .ref) :: lst rr (bs.map .ref) :: dicI C cc (colsA cl) :: ins q 54 d' :: att d' QN (QV w ht rr cc T.asp) :: sht C most a dp dt H (grid bs' (gridOf lp gr ht.toNat w.toNat) ++ (grid bs (gridOf lp gr ht.toNat w.toNat) ++ []))) (.trans (.cons (Gives.past (p := [_, _, _, _, _, _, _, _]))) (.perm (List.Perm.swap ..))) ?_
              refine ar_cons ?_
              refine ev_dict0 (intKind prg C.w) fun u => ?_
              refine ar_nil ?_
              refine ⟨Nat.le_of_ble_eq_true rfl, ?_⟩
              refine ⟨_, rfl, rfl, ?_⟩
              change WT C _ _ [.ref u, .ref a4] (assignInOrder [bindName env (Str.ofString "colours"), bindName env (Str.ofString "rows")]) _
              refine in_cons ?_
              refine as_bind ?_
              refine st_loc (by assumption) ((.tail .head)) ((.tail (.tail (.tail (.tail (.tail (.tail (.tail .head)))))))) ?_
              refine in_cons ?_
              refine as_bind ?_
              refine st_loc (by assumption) ((.tail .head)) ((.tail (.tail (.tail (.tail (.tail (.tail .head))))))) ?_
              refine in_nil ?_
              have hcA : ((colsA cl).map (·.1)).Nodup := by unfold colsA; rw [List.map_map]; exact hcn
              refine Wr.epoch (fun e => .tail (.tail (.tail (.tail .head)))) fun e => ?_
              refine ex_for r' ?_
              refine ev_attr ?_
              refine ev_loc (by assumption) (.tail _ (.head _)) (.tail (.tail (.tail (.tail (.tail .head))))) ?_
              refine ga_inst (by assumption) (.tail _ (.tail _ (.tail _ (.tail _ (.tail _ (.head _)))))) (.tail _ (.tail _ (.tail _ (.tail _ (.tail _ (.tail _ (.head _))))))) ((.tail (.tail (.tail .head)))) rfl ?_
              refine ⟨_, _, fun j l' => ∃ v9 : Option AV, l' = dicI C u (colsA (cl.take j)) :: ns env.locals [Str.ofString "script", Str.ofString "most", Str.ofString "text", Str.ofString "sheet", Str.ofString "is_filled", Str.ofString "found", Str.ofString "rows", Str.ofString "colours", Str.ofString "number", Str.ofString "due"] [some (.ref sa), some (.int most), some (.str x), some (.ref a), some (.bool fl), some (.ref q), some (.ref a4), some (.ref u), v9, v10] :: lst a4 (bs'.map .ref) :: lst rr (bs.map .ref) :: dicI C cc (colsA cl) (some e) :: ins q 54 d' :: att d' QN (QV w ht rr cc T.asp) :: sht C most a dp dt H (grid bs' (gridOf lp gr ht.toNat w.toNat) ++ (grid bs (gridOf lp gr ht.toNat w.toNat) ++ [])),
                .dict (.tail _ (.tail _ (.tail _ (.tail _ (.head _))))), ⟨_, rfl⟩, fun j y l' hy hI => ?_, fun l' hI => ?_⟩
              · obtain ⟨v9, rfl⟩ := hI
                refine ⟨.dict (.tail _ (.tail _ (.tail _ (.tail _ (.head _))))), ?_⟩
                obtain ⟨k, t, hkt, rfl⟩ : ∃ k t, cl[j]? = some (k, t) ∧ y = .int k := by
                  unfold colsA at hy
                  rw [List.getElem?_map, List.getElem?_map] at hy
                  cases hq : cl[j]? with
                  | none => rw [hq] at hy; cases hy
                  | some p => rw [hq] at hy; exact ⟨p.1, p.2, rfl, (Option.some.inj hy).symm⟩
                have hdg : dget (colsA cl) k = some (triA t) := dget_mem hcA (List.mem_map.mpr ⟨_, List.mem_of_getElem? hkt, rfl⟩)
                refine as_name ?_
                refine st_loc (by assumption) ((.tail .head)) ((.tail (.tail (.tail (.tail (.tail (.tail (.tail (.tail .head))))))))) ?_
                refine ex_sub ?_
                refine ev_callT (ev_glob (by assumption) (.tail _ (.tail _ (.tail _ (.tail _ (.tail _ (.tail _ (.tail _ (.head _)))))))) (gv_tuple _) ⟨_, rfl, ?_⟩)
                refine ar_cons ?_
                refine ev_sub ?_
                refine ev_attr ?_
                refine ev_loc (by assumption) (.tail _ (.head _)) (.tail (.tail (.tail (.tail (.tail .head))))) ?_
                refine ga_inst (by assumption) (.tail _ (.tail _ (.tail _ (.tail _ (.tail _ (.head _)))))) (.tail _ (.tail _ (.tail _ (.tail _ (.tail _ (.tail _ (.head _))))))) ((.tail (.tail (.tail .head)))) rfl ?_
                refine ev_loc (by assumption) (.tail _ (.head _)) (.tail (.tail (.tail (.tail (.tail (.tail (.tail (.tail .head)))))))) ?_
                refine gi_dict (.tail _ (.tail _ (.tail _ (.tail _ (.head _))))) (keyI k) hdg ?_
                refine ar_nil ?_
                refine t_tup_tup ?_
                refine ev_loc (by assumption) (.tail _ (.head _)) (.tail (.tail (.tail (.tail (.tail (.tail (.tail .head))))))) ?_
                refine ev_loc (by assumption) (.tail _ (.head _)) (.tail (.tail (.tail (.tail (.tail (.tail (.tail (.tail .head)))))))) ?_
                refine si_dict .head (keyI k) (by unfold colsA; rw [List.length_map, List.length_take]; omega) ?_
                have e2 : dput (colsA (cl.take j)) k (.tup (t.map .int)) = colsA (cl.take (j + 1)) := by
                  rw [dput_not (take_new hcn hkt), List.take_add_one, hkt]
                  unfold colsA
                  rw [List.map_append]; rfl
                rw [e2]
                refine ex_nil ?_
                exact .inl ⟨rfl, _, rfl⟩
              · obtain ⟨v9, rfl⟩ := hI
                refine ⟨.dict (.tail _ (.tail _ (.tail _ (.tail _ (.head _))))), ?_⟩
                have e4 : cl.take ((colsA cl).map fun p => AV.int p.1).length = cl := List.take_of_length_le (by unfold colsA; rw [List.length_map, List.length_map]; exact Nat.le_refl _)
                rw [e4]
                refine .gives (l' := sht C most a dp dt H (ns env.locals [Str.ofString "script", Str.ofString "most", Str.ofString "text", Str.ofString "sheet", Str.ofString "is_filled", Str.ofString "found", Str.ofString "rows", Str.ofString "colours", Str.ofString "number", Str.ofString "due"] [some (.ref sa), some (.int most), some (.str x), some (.ref a), some (.bool fl), some (.ref q), some (.ref a4), some (.ref u), v9, v10] :: dicI C u (colsA cl) :: lst a4 (bs'.map .ref) :: ins q 54 d' :: att d' QN (QV w ht rr cc T.asp) :: (grid bs' (gridOf lp gr ht.toNat w.toNat) ++ []))) ?_ ?_
                · exact .pick (.tail (.tail (.tail (.tail (.tail (.tail (.tail .head))))))) (.pick (.tail (.tail (.tail (.tail (.tail (.tail (.tail .head))))))) (.pick (.tail (.tail (.tail (.tail (.tail (.tail (.tail .head))))))) (.pick (.tail .head) (.pick .head (.pick .head (.pick (.tail (.tail .head)) (.pick (.tail (.tail .head)) (.sub (.cons _ (.cons _ (List.Sublist.append_left (List.nil_sublist _) _)))))))))))
                refine ex_assign ?_
                refine ev_callK (ev_glob (by assumption) (.tail _ (.tail _ (.tail _ (.tail _ (.tail _ (.tail _ (.head _))))))) (gv_shown _) ⟨_, rfl, rfl, ?_⟩)
                refine ar_cons ?_
                refine ev_loc (by assumption) (.tail _ (.tail _ (.tail _ (.head _)))) (.tail (.tail (.tail .head))) ?_
                refine ar_cons ?_
                refine Wr.mono (Φ := fun v l' => v = .int gr ∧ l' = sht C most a dp dt H (ns env.locals [Str.ofString "script", Str.ofString "most", Str.ofString "text", Str.ofString "sheet", Str.ofString "is_filled", Str.ofString "found", Str.ofString "rows", Str.ofString "colours", Str.ofString "number", Str.ofString "due"] [some (.ref sa), some (.int most), some (.str x), some (.ref a), some (.bool fl), some (.ref q), some (.ref a4), some (.ref u), v9, v10] :: dicI C u (colsA cl) :: lst a4 (bs'.map .ref) :: ins q 54 d' :: att d' QN (QV w ht rr cc T.asp) :: (grid bs' (gridOf lp gr ht.toNat w.toNat) ++ []))) (ev_if ?_) ?_
                · refine tr_val ?_
                  refine ev_loc (by assumption) (.tail _ (.tail _ (.tail _ (.head _)))) (.tail (.tail (.tail (.tail .head)))) ?_
                  refine ⟨_, .bool _, ?_⟩
                  refine ⟨fun hc => ?_, fun hc => ?_⟩
                  · refine ev_int ?_
                    rw [hgr, if_pos hc]
                    exact ⟨rfl, rfl⟩
                  · refine ev_un ?_
                    refine ev_int ?_
                    refine o1_neg ?_
                    rw [hgr, if_neg (by rw [hc]; decide)]
                    exact ⟨rfl, rfl⟩
                · rintro _ _ ⟨rfl, rfl⟩
                  refine ar_nil ?_
                  have hgr2 : gr = 0 ∨ gr = -1 := by
                    rw [hgr]; cases fl
                    · exact .inr rfl
                    · exact .inl rfl
                  refine shown_spec (n := n + 15) r' AG.geoL hgr2 fun r2 c2 bs2 cl2 hb2 hn2 hz2 hcl2 => ?_
                  rw [hsh, AG.pts] at *
                  dsimp only at *
                  refine W1.gives (l' := ns env.locals [Str.ofString "script", Str.ofString "most", Str.ofString "text", Str.ofString "sheet", Str.ofString "is_filled", Str.ofString "found", Str.ofString "rows", Str.ofString "colours", Str.ofString "number", Str.ofString "due"] [some (.ref sa), some (.int most), some (.str x), some (.ref a), some (.bool fl), some (.ref q), some (.ref a4), some (.ref u), v9, v10] :: lst r2 (bs2.map .ref) :: dicI C c2 (colsA cl2) :: sht C most a dp dt H (dicI C u (colsA cl) :: lst a4 (bs'.map .ref) :: ins q 54 d' :: att d' QN (QV w ht rr cc T.asp) :: (grid bs2 (gridOf lp gr ht.toNat w.toNat) ++ (grid bs' (gridOf lp gr ht.toNat w.toNat) ++ [])))) ?_ ?_
                  · exact .trans (.cons (Gives.past (p := [_, _, _, _, _, _, _, _, _]))) (.pick (.tail (.tail (.tail (.tail (.tail .head))))) .rfl)
                  refine st_loc (by assumption) (.head) ((.tail (.tail (.tail (.tail (.tail (.tail (.tail (.tail (.tail .head)))))))))) ?_
                  refine ex_if ?_
                  refine tr_cmp ?_
                  refine ev_tup ?_
                  refine ar_cons ?_
                  refine ev_attr ?_
                  refine ev_loc (by assumption) (.head _) (.tail (.tail (.tail (.tail (.tail .head))))) ?_
                  refine ga_inst (by assumption) (.tail _ (.tail _ (.tail _ (.tail _ (.tail _ (.tail _ (.tail _ (.tail _ (.head _))))))))) (.tail _ (.tail _ (.tail _ (.tail _ (.tail _ (.tail _ (.tail _ (.tail _ (.tail _ (.head _)))))))))) (.head) rfl ?_
                  refine ar_cons ?_
                  refine ev_attr ?_
                  refine ev_loc (by assumption) (.head _) (.tail (.tail (.tail (.tail (.tail .head))))) ?_
                  refine ga_inst (by assumption) (.tail _ (.tail _ (.tail _ (.tail _ (.tail _ (.tail _ (.tail _ (.tail _ (.head _))))))))) (.tail _ (.tail _ (.tail _ (.tail _ (.tail _ (.tail _ (.tail _ (.tail _ (.tail _ (.head _)))))))))) ((.tail .head)) rfl ?_
                  refine ar_cons ?_
                  refine ev_loc (by assumption) (.head _) (.tail (.tail (.tail (.tail (.tail (.tail .head)))))) ?_
                  refine ar_cons ?_
                  refine ev_loc (by assumption) (.head _) (.tail (.tail (.tail (.tail (.tail (.tail (.tail .head))))))) ?_
                  refine ar_cons ?_
                  refine ev_callT (ev_glob (by assumption) (.tail _ (.tail _ (.tail _ (.tail _ (.tail _ (.tail _ (.tail _ (.head _)))))))) (gv_tuple _) ⟨_, rfl, ?_⟩)
                  refine ar_cons ?_
                  refine ev_attr ?_
                  refine ev_loc (by assumption) (.head _) (.tail (.tail (.tail (.tail (.tail .head))))) ?_
                  refine ga_inst (by assumption) (.tail _ (.tail _ (.tail _ (.tail _ (.tail _ (.tail _ (.tail _ (.tail _ (.head _))))))))) (.tail _ (.tail _ (.tail _ (.tail _ (.tail _ (.tail _ (.tail _ (.tail _ (.tail _ (.head _)))))))))) ((.tail (.tail (.tail (.tail .head))))) rfl ?_
                  refine ar_nil ?_
                  refine t_tup_tup ?_
                  refine ar_nil ?_
                  refine ⟨Nat.le_of_ble_eq_true rfl, ?_⟩
                  refine ev_loc (by assumption) (.head _) (.tail (.tail (.tail (.tail (.tail (.tail (.tail (.tail (.tail .head))))))))) ?_
                  have hsame : ∀ k, dget cl k = dget cl2 k := fun k => by
                    rw [hcl, hcl2]
                    have e5 : (fun k => decide ((fl = true ∧ 0 < w ∧ 0 < ht ∧ k = 0) ∨ k ∈ lp.map (·.2))) = fun k => decide (0 ≤ k ∧ ((k = gr ∧ 0 < w ∧ 0 < ht) ∨ ∃ row ∈ gridOf lp gr ht.toNat w.toNat, k ∈ row)) := by
                      funext k
                      refine decide_eq_decide.mpr (seen_iff hgr AG.geo.nd AG.nn ?_ k)
                      intro p hp
                      obtain ⟨i1, i2, i3, i4⟩ := AG.geoL.inn p (by rw [AG.pts]; exact hp)
                      exact ⟨i1, hwh.2.2.2 p hp, i3, by omega⟩
                    rw [e5]
                    unfold colAt
                    rw [AG.cols]
                  refine c2_ne_tup r' rfl (fun f s R S j x z p1 p2 hx hz => ?_) ?_
                  · refine (show Two (fun x z => ∀ u w, Is f x u → Is f z w → EqD s 100 u w) _ _ from Two.cons ?_ (Two.cons ?_ (Two.cons ?_ (Two.cons ?_ (Two.cons ?_ Two.nil))))) j x z hx hz p1 p2
                    · exact fun u w hu hw => (eqd_int hu hw).le (by decide)
                    · exact fun u w hu hw => (eqd_int hu hw).le (by decide)
                    · intro p1 p2 hu hw
                      rw [hu.refE, hw.refE]
                      have hM : (gridOf lp gr ht.toNat w.toNat).length = ht.toNat := by unfold gridOf; rw [List.length_map, List.length_range]
                      have hl1 : bs'.length = (gridOf lp gr ht.toNat w.toNat).length := by rw [hM]; exact hb'
                      have hl2 : bs2.length = (gridOf lp gr ht.toNat w.toNat).length := by rw [hM]; exact hb2
                      refine (rows_eq S (List.mem_append_left R (List.mem_of_getElem? (i := 7) rfl)) (List.mem_append_left R (List.mem_of_getElem? (i := 1) rfl)) hl1 hl2 (fun i b x hb hx => List.mem_append_left R ?_) (fun i b x hb hx => List.mem_append_left R ?_)).le (by decide)
                      · exact .tail _ (.tail _ (.tail _ (.tail _ (.tail _ (.tail _ (.tail _ (.tail _ (.tail _ (.tail _ (List.mem_append_right _ (grid_mem hb hx)))))))))))
                      · exact .tail _ (.tail _ (.tail _ (.tail _ (.tail _ (.tail _ (.tail _ (.tail _ (.tail _ (.tail _ (grid_mem hb hx))))))))))
                    · intro p1 p2 hu hw
                      rw [hu.refE, hw.refE]
                      exact (cols_eq S (List.mem_append_left R (List.mem_of_getElem? (i := 6) rfl)) (List.mem_append_left R (List.mem_of_getElem? (i := 2) rfl)) hcn hn2 hsame).le (by decide)
                    · intro p1 p2 hu hw
                      have e6 : pairA H.asp = .tup [AV.int T.asp.1, AV.int T.asp.2] := by rw [← AG.asp]; rfl
                      rw [e6] at hw
                      exact (eqd_tup S hu hw rfl fun j x z u w hx hz hu hw => eqd_ints (ns := [T.asp.1, T.asp.2]) hx hz hu hw).le (by decide)
                  · refine ⟨_, .bool _, ?_⟩
                    refine ⟨fun q => (nomatch q), fun _ => ?_⟩
                    refine ex_nil ?_
                    refine next_is ?_
                    refine ex_nil ?_
                    refine .inl ⟨rfl, _, _, _, _, _, _, .sub (.cons_cons _ (.cons _ (.cons _ (.cons_cons _ (.cons_cons _ (.cons_cons _ (List.nil_sublist _)))))))⟩
        · obtain ⟨v5, v6, v7, v8, v9, v10, hv⟩ := hI
          refine ⟨.tup, ?_⟩
          refine .gives hv ?_
          refine ex_ret ?_
          refine ev_bool ?_
          exact ⟨_, _, .ret, .rfl, rfl⟩
end Mine
end
section
open PySem PySem.W PySem.Calls PyProof.Rows
namespace Mine
theorem splitL_semi : ∀ d : List Nat, splitL (d ++ [59]) = splitL d ++ [[]]
  | [] => rfl
  | c :: r => by
    rw [List.cons_append, splitL_cons, splitL_cons, splitL_semi r]
    by_cases h : c = 59
    · rw [if_pos h, if_pos h]; rfl
    · rw [if_neg h, if_neg h]
      cases hs : splitL r with
      | nil => exact (splitL_ne r hs).elim
      | cons a t => rfl
theorem splitL_fig {o : Nat} (ho : o ≠ 59) : ∀ d : List Nat, ∃ i x, splitL d = i ++ [x] ∧ splitL (d ++ [o]) = i ++ [x ++ [o]]
  | [] => ⟨[], [], rfl, by show (if o = 59 then _ else _) = _; rw [if_neg ho]; rfl⟩
  | c :: r => by
    obtain ⟨i, x, h1, h2⟩ := splitL_fig ho r
    rw [List.cons_append, splitL_cons, splitL_cons, h1, h2]
    by_cases h : c = 59
    · rw [if_pos h, if_pos h]; exact ⟨[] :: i, x, rfl, rfl⟩
    · rw [if_neg h, if_neg h]
      cases i with
      | nil => exact ⟨[], c :: x, rfl, rfl⟩
      | cons a t => exact ⟨(c :: a) :: t, x, rfl, rfl⟩
noncomputable def valsL (d : List Nat) : List Int := (splitL d).map numV
structure NR (ns : List Int) (d : List Nat) : Prop where
  t : ns.take 8 = (valsL d).take 8
  l : ns.length = min (valsL d).length 9
theorem NR.nil : NR [0] [] := ⟨rfl, rfl⟩
theorem NR.semi {ns : List Int} {d : List Nat} (h : NR ns d) : NR (if ns.length ≤ 8 then ns ++ [0] else ns) (d ++ [59]) := by
  obtain ⟨t, l⟩ := h
  have e : valsL (d ++ [59]) = valsL d ++ [0] := by unfold valsL; rw [splitL_semi, List.map_append]; rfl
  by_cases hl : ns.length ≤ 8
  · rw [if_pos hl]
    have e1 : ns = valsL d := by rw [List.take_of_length_le hl, List.take_of_length_le (by omega)] at t; exact t
    rw [e1] at hl ⊢
    refine ⟨by rw [e], by rw [e, List.length_append]; show _ + 1 = min (_ + 1) 9; omega⟩
  · rw [if_neg hl]
    refine ⟨by rw [e, List.take_append_of_le_length (by omega)]; exact t, by rw [e, List.length_append]; show _ = min (_ + 1) 9; omega⟩
theorem sat_step {v t : Int} (h0 : 0 ≤ v) (h1 : 0 ≤ t) : max 0 (min (min v 32767 * 10 + t) 32767) = min (v * 10 + t) 32767 := by
  rcases Int.le_total v 32767 with h | h
  · rw [Int.min_eq_left h]; exact Int.max_eq_right (by omega)
  · rw [Int.min_eq_right h, Int.min_eq_right (a := v * 10 + t) (by omega), Int.min_eq_right (by omega)]; rfl
theorem numV_snoc {x : List Nat} {o : Nat} (h : 48 ≤ o ∧ o ≤ 57) : max 0 (min (numV x * 10 + (o : Int) - 48) 32767) = numV (x ++ [o]) := by
  unfold numV
  rw [NumText.digitsVal_snoc, Int.add_sub_assoc, Int.natCast_add, Int.natCast_mul, Int.natCast_sub h.1]
  exact sat_step (Int.natCast_nonneg _) (by omega)
theorem NR.fig {ns : List Int} {d : List Nat} {o : Nat} (ho : 48 ≤ o ∧ o ≤ 57) (h : NR ns d) : NR (if ns.length ≤ 8 then ns.dropLast ++ [max 0 (min (lastI ns * 10 + (o : Int) - 48) 32767)] else ns) (d ++ [o]) := by
  obtain ⟨t, l⟩ := h
  obtain ⟨i, x, e1, e2⟩ := splitL_fig (o := o) (by omega) d
  have f1 : valsL d = i.map numV ++ [numV x] := by unfold valsL; rw [e1, List.map_append]; rfl
  have f2 : valsL (d ++ [o]) = i.map numV ++ [numV (x ++ [o])] := by unfold valsL; rw [e2, List.map_append]; rfl
  rw [f1, List.length_append] at l
  change _ = min (_ + 1) 9 at l
  by_cases hl : ns.length ≤ 8
  · rw [if_pos hl]
    have g : ns = i.map numV ++ [numV x] := by
      rw [List.take_of_length_le hl, f1, List.take_of_length_le (by rw [List.length_append]; show _ + 1 ≤ 8; omega)] at t; exact t
    have hlast : lastI ns = numV x := by unfold lastI; rw [g, List.getLastD_concat]
    rw [hlast, g, List.dropLast_concat, numV_snoc ho]
    refine ⟨by rw [f2], by rw [f2, List.length_append]; show _ + 1 = min (_ + 1) 9; omega⟩
  · rw [if_neg hl]
    refine ⟨?_, by rw [f2, List.length_append]; show _ = min (_ + 1) 9; omega⟩
    rw [t, f1, f2, List.take_append_of_le_length (by omega), List.take_append_of_le_length (by omega)]
theorem NR.at {ns : List Int} {d : List Nat} (h : NR ns d) {i : Nat} (hi : i < 8) : n0 ns i = n0 ((valsL d).take 8 ++ List.replicate 8 0) i := by
  obtain ⟨t, l⟩ := h
  unfold n0
  rw [List.getD_eq_getElem?_getD, List.getD_eq_getElem?_getD, ← t]
  by_cases hl : i < ns.length
  · rw [List.getElem?_append_left (by rw [List.length_take]; omega), List.getElem?_take_of_lt hi]
  · rw [List.getElem?_eq_none (by omega), List.getElem?_append_right (by rw [List.length_take]; omega), List.getElem?_replicate]
    split <;> rfl
theorem NR.many {ns : List Int} {d : List Nat} (h : NR ns d) : ns.length > 1 ↔ (((valsL d).take 8).length : Int) > 1 := by
  have := h.l
  rw [List.length_take]; omega
end Mine
end
section
open PySem PySem.W PySem.Calls PyProof.Rows
namespace Mine
structure PB (R W : Int) (p : ZP) : Prop where
  nd : (p.map (·.1)).Nodup
  inn : ∀ q ∈ p, (0 ≤ q.1.1 ∧ q.1.1 < R) ∧ (0 ≤ q.1.2 ∧ q.1.2 < W) ∧ 0 ≤ q.2
theorem PB.mono {R W R' W' : Int} {p : ZP} (h : PB R W p) (hr : R ≤ R') (hw : W ≤ W') : PB R' W' p :=
  ⟨h.nd, fun q hq => by obtain ⟨a, b, c⟩ := h.inn q hq; exact ⟨by omega, by omega, c⟩⟩
theorem PB.put {R W : Int} {p : ZP} {r c v : Int} (h : PB R W p) (hr : 0 ≤ r ∧ r < R) (hc : 0 ≤ c ∧ c < W) (hv : 0 ≤ v) : PB R W (dput p (r, c) v) := by
  refine ⟨dput_nodup h.nd, fun q hq => ?_⟩
  by_cases e : (r, c) ∈ p.map (·.1)
  · rw [dput_mem e] at hq
    obtain ⟨x, hx, rfl⟩ := List.mem_map.mp hq
    obtain ⟨a, b, d⟩ := h.inn x hx
    split
    · exact ⟨a, b, hv⟩
    · exact ⟨a, b, d⟩
  · rw [dput_not e] at hq
    rcases List.mem_append.mp hq with hq | hq
    · exact h.inn q hq
    · rw [List.mem_singleton.mp hq]; exact ⟨hr, hc, hv⟩
theorem key_inj {most : Int} {r c r' c' : Int} (h : 0 ≤ c ∧ c < most) (h' : 0 ≤ c' ∧ c' < most) : r * most + c = r' * most + c' ↔ (r, c) = (r', c') := by
  constructor
  · intro e
    have e1 := key_div (r := r) h.1 h.2
    have e2 := key_div (r := r') h'.1 h'.2
    rw [e] at e1
    rw [← e1.1, ← e1.2, e2.1, e2.2]
  · intro e
    cases e; rfl
theorem pts_put {most W R : Int} {p : ZP} {r c v : Int} (h : PB R W p) (hw : W ≤ most) (hc : 0 ≤ c ∧ c < W) : dput (ptsOf most p) (r * most + c) v = ptsOf most (dput p (r, c) v) := by
  have hk : r * most + c ∈ (ptsOf most p).map (·.1) ↔ (r, c) ∈ p.map (·.1) := by
    unfold ptsOf
    rw [List.map_map, List.mem_map, List.mem_map]
    constructor
    · rintro ⟨q, hq, e⟩
      obtain ⟨_, b, _⟩ := h.inn q hq
      exact ⟨q, hq, (key_inj (r := q.1.1) (c := q.1.2) ⟨b.1, by omega⟩ ⟨hc.1, by omega⟩).mp e⟩
    · rintro ⟨q, hq, e⟩
      exact ⟨q, hq, by show q.1.1 * most + q.1.2 = _; rw [e]⟩
  by_cases e : (r, c) ∈ p.map (·.1)
  · rw [dput_mem e, dput_mem (hk.mpr e)]
    unfold ptsOf
    rw [List.map_map, List.map_map]
    apply List.map_congr_left
    intro q hq
    obtain ⟨_, b, _⟩ := h.inn q hq
    have := key_inj (most := most) (r := q.1.1) (c := q.1.2) (r' := r) (c' := c) ⟨b.1, by omega⟩ ⟨hc.1, by omega⟩
    show (if q.1.1 * most + q.1.2 = r * most + c then (q.1.1 * most + q.1.2, v) else (q.1.1 * most + q.1.2, q.2)) = _
    by_cases e2 : q.1 = (r, c)
    · rw [if_pos (this.mpr e2)]; show _ = (fun p : (Int × Int) × Int => (p.1.1 * most + p.1.2, p.2)) (if q.1 = (r, c) then (q.1, v) else q); rw [if_pos e2]
    · rw [if_neg (fun x => e2 (this.mp x))]; show _ = (fun p : (Int × Int) × Int => (p.1.1 * most + p.1.2, p.2)) (if q.1 = (r, c) then (q.1, v) else q); rw [if_neg e2]
  · rw [dput_not e, dput_not (fun x => e (hk.mp x))]
    unfold ptsOf
    rw [List.map_append]; rfl
theorem row_same {most W R : Int} {p : ZP} {r c0 v : Int} (h : PB R W p) (hw : W ≤ most) (hr : 0 ≤ r ∧ r < R) (hc : 0 ≤ c0) (hv : 0 ≤ v) : ∀ n : Nat, c0 + n ≤ W → rowP (ptsOf most p) (r * most + c0) v n = ptsOf most (rowZ p r c0 v n) ∧ PB R W (rowZ p r c0 v n)
  | 0, _ => ⟨rfl, h⟩
  | n + 1, hn => by
    obtain ⟨e, b⟩ := row_same h hw hr hc hv n (by omega)
    refine ⟨?_, b.put hr (by omega) hv⟩
    show dput (rowP (ptsOf most p) (r * most + c0) v n) (r * most + c0 + n) v = _
    rw [e, Int.add_assoc, pts_put b hw (by omega)]; rfl
theorem band_same {most W R : Int} {p : ZP} {top bits col e v : Int} (h : PB R W p) (hw : W ≤ most) (ht : 0 ≤ top) (hc : 0 ≤ col) (he : col ≤ e) (heW : e ≤ W) (hv : 0 ≤ v) (hR : ∀ b : Nat, b < 6 → top + b < most → top + b < R) : ∀ n : Nat, n ≤ 6 →
    bandP most top bits col e v (ptsOf most p) n = ptsOf most (bandZ most top bits col e v p n) ∧ PB R W (bandZ most top bits col e v p n)
  | 0, _ => ⟨rfl, h⟩
  | b + 1, hb => by
    obtain ⟨q, k⟩ := band_same h hw ht hc he heW hv hR b (by omega)
    unfold bandP bandZ
    by_cases g : bits / 2 ^ b % 2 = 1 ∧ top + b < most
    · rw [if_pos g, if_pos g, q]
      exact row_same k hw ⟨by omega, hR b (by omega) g.2⟩ hc hv _ (by omega)
    · rw [if_neg g, if_neg g]; exact ⟨q, k⟩
end Mine
end
section
open PySem PySem.W PySem.Calls PyProof.Rows
namespace Mine
structure Rel (most : Int) (S : RS) (H : SH) : Prop where
  pts : S.pts = ptsOf most H.pts
  cols : S.cols = H.told
  asp : S.asp = H.asp
  told : S.told = if H.size = (0, 0) then none else some H.size
  column : S.column = H.column
  band : S.band = H.band
  colour : S.colour = H.colour
  many : S.many = H.times
  width : S.width = H.wide
  bands : S.bands = H.bands
  begun : (S.width = 0 ∧ S.bands = 0) ↔ H.begun = false
  m1 : 1 ≤ most
  c0 : 0 ≤ H.column
  c1 : H.column ≤ most
  t0 : 1 ≤ H.times
  b0 : 0 ≤ H.band
  w0 : 0 ≤ H.wide
  w1 : H.wide ≤ most
  d0 : 0 ≤ H.bands
  d1 : H.bands ≤ H.band + 1
  k0 : 0 ≤ H.colour
  s0 : 0 ≤ H.size.1 ∧ H.size.1 ≤ most
  s1 : 0 ≤ H.size.2 ∧ H.size.2 ≤ most
  pb : PB (min (6 * H.bands) most) H.wide H.pts
theorem Rel.start {most : Int} (h : 1 ≤ most) : Rel most RS0 SH0 := ⟨rfl, rfl, rfl, rfl, rfl, rfl, rfl, rfl, rfl, rfl, ⟨fun _ => rfl, fun _ => ⟨rfl, rfl⟩⟩, h, Int.le_refl _, by show (0 : Int) ≤ most; omega, Int.le_refl _, Int.le_refl _, Int.le_refl _, by show (0 : Int) ≤ most; omega, Int.le_refl _, by decide, Int.le_refl _,
  ⟨Int.le_refl _, by show (0 : Int) ≤ most; omega⟩, ⟨Int.le_refl _, by show (0 : Int) ≤ most; omega⟩, ⟨List.nodup_nil, fun _ h => (nomatch h)⟩⟩
theorem Rel.sign {most : Int} {S : RS} {H : SH} (R : Rel most S H) (bits : Int) : Rel most { drawI most S bits with many := 1 } (signI most H bits) := by
  obtain ⟨pts, cols, asp, told, column, band, colour, many, width, bands, begun, m1, c0, c1, t0, b0, w0, w1, d0, d1, k0, s0, s1, pb⟩ := R
  have hmin : max H.column (min (H.column + H.times) most) = min (H.column + H.times) most := by omega
  unfold drawI signI
  rw [column, band, many]
  by_cases g : H.band * 6 < most ∧ H.column < min (H.column + H.times) most
  · rw [if_pos g, if_neg (show ¬(H.column = most ∨ most ≤ 6 * H.band) by omega), hmin]
    have B : PB (min (6 * max H.bands (H.band + 1)) most) (max H.wide (min (H.column + H.times) most)) H.pts := pb.mono (by omega) (by omega)
    have key := band_same (bits := bits) (v := H.colour) (most := most) (e := min (H.column + H.times) most) (top := 6 * H.band) (col := H.column) B (by omega) (by omega) c0 (by omega) (by omega) k0 (fun b h1 h2 => by omega) 6 (Nat.le_refl _)
    rw [← pts] at key
    refine ⟨?_, cols, asp, told, rfl, rfl, colour, rfl, ?_, ?_, ⟨fun q => ?_, fun q => (nomatch q)⟩, m1, ?_, ?_, Int.le_refl _, b0, ?_, ?_, ?_, ?_, k0, s0, s1, key.2⟩
    · show bandP most (H.band * 6) bits H.column _ S.colour S.pts 6 = _
      rw [Int.mul_comm H.band 6, colour]; exact key.1
    · show max S.width _ = max H.wide _; rw [width]
    · show max S.bands _ = max H.bands _; rw [bands]
    · have q2 : max S.bands (H.band + 1) = 0 := q.2
      omega
    · show 0 ≤ min _ _; omega
    · show min _ _ ≤ most; omega
    · show 0 ≤ max _ _; omega
    · show max _ _ ≤ most; omega
    · show 0 ≤ max _ _; omega
    · show max _ _ ≤ H.band + 1; omega
  · rw [if_neg g, if_pos (show H.column = most ∨ most ≤ 6 * H.band by omega), hmin]
    exact ⟨pts, cols, asp, told, rfl, rfl, colour, rfl, width, bands, begun, m1, by show 0 ≤ min _ _; omega, by show min _ _ ≤ most; omega, Int.le_refl _, b0, w0, w1, d0, d1, k0, s0, s1, pb⟩
theorem Rel.step {most : Int} {S : RS} {H : SH} (R : Rel most S H) {k : Int} (hk : 0 ≤ k) : Rel most { S with column := 0, band := S.band + k, many := 1 } { H with column := 0, times := 1, band := H.band + k } := by
  obtain ⟨pts, cols, asp, told, column, band, colour, many, width, bands, begun, m1, c0, c1, t0, b0, w0, w1, d0, d1, k0, s0, s1, pb⟩ := R
  exact ⟨pts, cols, asp, told, rfl, by show S.band + k = H.band + k; rw [band], colour, rfl, width, bands, begun, m1, Int.le_refl _, by show 0 ≤ most; omega, Int.le_refl _, by show 0 ≤ H.band + k; omega, w0, w1, d0, by show H.bands ≤ H.band + k + 1; omega, k0, s0, s1, pb⟩
theorem Rel.side {most : Int} {S : RS} {H : SH} (R : Rel most S H) (c : Int) (ns : List Int) : Rel most { S with command := c, nums := ns } H := by
  obtain ⟨pts, cols, asp, told, column, band, colour, many, width, bands, begun, m1, c0, c1, t0, b0, w0, w1, d0, d1, k0, s0, s1, pb⟩ := R
  exact ⟨pts, cols, asp, told, column, band, colour, many, width, bands, begun, m1, c0, c1, t0, b0, w0, w1, d0, d1, k0, s0, s1, pb⟩
theorem Rel.fin {most : Int} {S : RS} {H : SH} (R : Rel most S H) {c : Nat} {d : List Nat} (hc : c = 33 ∨ c = 34 ∨ c = 35) (e : S.command = (c : Int)) (hn : NR S.nums d) (hp : ∀ x ∈ S.nums, 0 ≤ x ∧ x ≤ 32767) :
    Rel most (endI most S) (commandI most H c ((valsL d).take 8 ++ List.replicate 8 0) ((valsL d).take 8).length) := by
  obtain ⟨pts, cols, asp, told, column, band, colour, many, width, bands, begun, m1, c0, c1, t0, b0, w0, w1, d0, d1, k0, s0, s1, pb⟩ := R
  have a0 := hn.at (i := 0) (by decide)
  have a1 := hn.at (i := 1) (by decide)
  have a2 := hn.at (i := 2) (by decide)
  have a3 := hn.at (i := 3) (by decide)
  have a4 := hn.at (i := 4) (by decide)
  have hm := hn.many
  have p2 := n0_pos hp 2
  have p3 := n0_pos hp 3
  unfold endI commandI
  dsimp only
  rw [← a0, ← a1, ← a2, ← a3, e]
  rcases hc with rfl | rfl | rfl
  · rw [if_pos (show ((33 : Nat) : Int) = 33 from rfl), if_pos (show (33 : Nat) = 33 from rfl)]
    exact ⟨pts, cols, asp, told, column, band, colour, rfl, width, bands, begun, m1, c0, c1, by show 1 ≤ max 1 _; omega, b0, w0, w1, d0, d1, k0, s0, s1, pb⟩
  · rw [if_neg (show ¬((34 : Nat) : Int) = 33 by decide), if_neg (show ¬((34 : Nat) : Int) = 35 by decide), if_neg (show ¬(34 : Nat) = 33 by decide), if_neg (show ¬(34 : Nat) = 35 by decide)]
    have hg : ((((34 : Nat) : Int) = 34 ∧ S.width = 0 ∧ S.bands = 0 ∧ S.told = none) ↔ (H.begun = false ∧ H.size = (0, 0))) := by
      rw [told]
      constructor
      · rintro ⟨_, h1, h2, h3⟩
        refine ⟨begun.mp ⟨h1, h2⟩, ?_⟩
        by_cases z : H.size = (0, 0)
        · exact z
        · rw [if_neg z] at h3; cases h3
      · rintro ⟨h1, h2⟩
        exact ⟨rfl, (begun.mpr h1).1, (begun.mpr h1).2, if_pos h2⟩
    by_cases g : H.begun = false ∧ H.size = (0, 0)
    · rw [if_pos (hg.mpr g), if_pos g]
      refine ⟨pts, cols, rfl, ?_, column, band, colour, many, width, bands, begun, m1, c0, c1, t0, b0, w0, w1, d0, d1, k0, ⟨?_, ?_⟩, ⟨?_, ?_⟩, pb⟩
      · show setTold most (n0 S.nums 2) (n0 S.nums 3) = if (min (n0 S.nums 2) most, min (n0 S.nums 3) most) = (0, 0) then none else some (min (n0 S.nums 2) most, min (n0 S.nums 3) most)
        unfold setTold
        by_cases z : n0 S.nums 2 > 0 ∨ n0 S.nums 3 > 0
        · rw [if_pos z, if_neg (fun q => by obtain ⟨q1, q2⟩ := Prod.mk.inj q; omega)]
        · rw [if_neg z, if_pos (by rw [show min (n0 S.nums 2) most = 0 by omega, show min (n0 S.nums 3) most = 0 by omega])]
      · show 0 ≤ min _ _; omega
      · show min _ _ ≤ most; omega
      · show 0 ≤ min _ _; omega
      · show min _ _ ≤ most; omega
    · rw [if_neg (fun q => g (hg.mp q)), if_neg g]
      exact ⟨pts, cols, asp, told, column, band, colour, many, width, bands, begun, m1, c0, c1, t0, b0, w0, w1, d0, d1, k0, s0, s1, pb⟩
  · rw [if_neg (show ¬((35 : Nat) : Int) = 33 by decide), if_pos (show ((35 : Nat) : Int) = 35 from rfl), if_neg (show ¬(35 : Nat) = 33 by decide), if_pos (show (35 : Nat) = 35 from rfl)]
    have hk : 0 ≤ n0 S.nums 0 % 256 := Int.emod_nonneg _ (by decide)
    unfold tellZ
    rw [← a1, ← a2, ← a3, ← a4]
    generalize (((valsL d).take 8).length : Int) = mm at hm ⊢
    by_cases g : S.nums.length > 1
    · rw [if_pos g]
      unfold tellI
      by_cases g1 : n0 S.nums 1 = 1
      · rw [if_pos g1, if_pos (show mm > 1 ∧ n0 S.nums 1 = 1 from ⟨hm.mp g, g1⟩)]
        exact ⟨pts, by show dput S.cols _ _ = dput H.told _ _; rw [cols], asp, told, column, band, rfl, many, width, bands, begun, m1, c0, c1, t0, b0, w0, w1, d0, d1, hk, s0, s1, pb⟩
      · rw [if_neg g1, if_neg (show ¬(mm > 1 ∧ n0 S.nums 1 = 1) from fun q => g1 q.2)]
        by_cases g2 : n0 S.nums 1 = 2
        · rw [if_pos g2, if_pos (show mm > 1 ∧ n0 S.nums 1 = 2 from ⟨hm.mp g, g2⟩)]
          exact ⟨pts, by show dput S.cols _ _ = dput H.told _ _; rw [cols], asp, told, column, band, rfl, many, width, bands, begun, m1, c0, c1, t0, b0, w0, w1, d0, d1, hk, s0, s1, pb⟩
        · rw [if_neg g2, if_neg (show ¬(mm > 1 ∧ n0 S.nums 1 = 2) from fun q => g2 q.2)]
          exact ⟨pts, cols, asp, told, column, band, rfl, many, width, bands, begun, m1, c0, c1, t0, b0, w0, w1, d0, d1, hk, s0, s1, pb⟩
    · rw [if_neg g, if_neg (show ¬(mm > 1 ∧ n0 S.nums 1 = 1) from fun q => g (hm.mpr q.1)), if_neg (show ¬(mm > 1 ∧ n0 S.nums 1 = 2) from fun q => g (hm.mpr q.1))]
      exact ⟨pts, cols, asp, told, column, band, rfl, many, width, bands, begun, m1, c0, c1, t0, b0, w0, w1, d0, d1, hk, s0, s1, pb⟩
theorem Rel.idle {most : Int} {S : RS} {H : SH} (R : Rel most S H) (e : S.command = 0) : Rel most (endI most S) H := by
  unfold endI
  dsimp only
  rw [e, if_neg (show ¬(0 : Int) = 33 by decide), if_neg (show ¬(0 : Int) = 35 by decide), if_neg (fun q => absurd q.1 (by decide))]
  obtain ⟨pts, cols, asp, told, column, band, colour, many, width, bands, begun, m1, c0, c1, t0, b0, w0, w1, d0, d1, k0, s0, s1, pb⟩ := R
  exact ⟨pts, cols, asp, told, column, band, colour, many, width, bands, begun, m1, c0, c1, t0, b0, w0, w1, d0, d1, k0, s0, s1, pb⟩
end Mine
end
section
open PySem PySem.W PySem.Calls PyProof.Rows
namespace Mine
noncomputable def stepC (most : Int) (H : SH) (c : Nat) (r : List Nat) : SH :=
  if c = 33 ∨ c = 35 ∨ c = 34 then commandI most H c ((valsL (r.takeWhile isNS)).take 8 ++ List.replicate 8 0) ((valsL (r.takeWhile isNS)).take 8).length
  else if c = 36 ∨ c = 45 then { H with column := 0, times := 1, band := H.band + (if c = 45 then 1 else 0) }
  else if 63 ≤ c ∧ c ≤ 126 then signI most H ((c : Nat) - 63)
  else H
noncomputable def goL (most : Int) : SH → List Nat → SH
  | H, [] => H
  | H, c :: r => goL most (stepC most H c r) r
theorem readL_go {most : Int} {cs : List Nat} : ∀ (k i : Nat), i + k = cs.length → readL most cs (i + k) = goL most (readL most cs i) (cs.drop i)
  | 0, i, h => by rw [Nat.add_zero] at h; rw [List.drop_of_length_le (by omega)]; rfl
  | k + 1, i, h => by
    have hi : i < cs.length := by omega
    have e : cs.drop i = cs[i] :: cs.drop (i + 1) := List.drop_eq_getElem_cons hi
    rw [e, show i + (k + 1) = i + 1 + k by omega, readL_go k (i + 1) (by omega)]
    have g : cs.getD i 0 = cs[i] := by rw [List.getD_eq_getElem?_getD, List.getElem?_eq_getElem hi]; rfl
    have s : readL most cs (i + 1) = stepC most (readL most cs i) cs[i] (cs.drop (i + 1)) := by
      show stepL most cs (readL most cs i) i = _
      unfold stepL stepC
      rw [g]; rfl
    rw [s]; rfl
theorem readL_all {most : Int} {cs : List Nat} : readL most cs cs.length = goL most SH0 cs := by
  have := readL_go (most := most) (cs := cs) cs.length 0 (Nat.zero_add _)
  rw [Nat.zero_add] at this
  exact this
theorem stepC_ns {most : Int} {H : SH} {c : Nat} {r : List Nat} (h : isNS c = true) : stepC most H c r = H := by
  have h := of_decide_eq_true h
  unfold stepC
  rw [if_neg (by omega), if_neg (by omega), if_neg (by omega)]
structure Pend (most : Int) (S : RS) (H H' : SH) (r : List Nat) : Prop where
  rel : Rel most S H
  k : ∃ j, Ok most j S
  w : (S.command = 0 ∧ H' = H) ∨ ∃ (c : Nat) (d : List Nat), (c = 33 ∨ c = 34 ∨ c = 35) ∧ S.command = (c : Int) ∧ NR S.nums d ∧
    H' = commandI most H c ((valsL (d ++ r.takeWhile isNS)).take 8 ++ List.replicate 8 0) ((valsL (d ++ r.takeWhile isNS)).take 8).length
theorem end_cmd {most : Int} {S : RS} : (endI most S).command = 0 := by
  unfold endI
  dsimp only
  split
  · rfl
  · split
    · split
      · unfold tellI; split
        · rfl
        · split <;> rfl
      · rfl
    · split <;> rfl
theorem Pend.fin {most : Int} {S : RS} {H H' : SH} {r : List Nat} (P : Pend most S H H' r) (hr : r.takeWhile isNS = []) : Rel most (endI most S) H' := by
  obtain ⟨rel, ⟨j, k⟩, w⟩ := P
  rcases w with ⟨e, rfl⟩ | ⟨c, d, hc, e, hn, rfl⟩
  · exact rel.idle e
  · rw [hr, List.append_nil]
    exact rel.fin hc e hn k.pos
theorem Pend.step {most : Int} {S : RS} {H H' : SH} {o : Nat} {r : List Nat} (P : Pend most S H H' (o :: r)) : ∃ H2, Pend most (putI most S o) H2 (stepC most H' o r) r := by
  by_cases hf : 48 ≤ o ∧ o ≤ 57
  · have hns : isNS o = true := decide_eq_true (.inr hf)
    rw [stepC_ns hns]
    obtain ⟨rel, ⟨j, k⟩, w⟩ := P
    have e : putI most S o = if S.command ≠ 0 ∧ S.nums.length ≤ 8 then { S with nums := S.nums.dropLast ++ [max 0 (min (lastI S.nums * 10 + (o : Int) - 48) 32767)] } else S := by
      unfold putI; rw [if_pos (by omega)]
    refine ⟨H, ?_, ⟨_, k.put⟩, ?_⟩
    · rw [e]; split
      · exact rel.side _ _
      · exact rel
    · rcases w with ⟨e0, rfl⟩ | ⟨c, d, hc, e0, hn, rfl⟩
      · left; rw [e, if_neg (fun q => q.1 e0)]; exact ⟨e0, rfl⟩
      · right
        have hc0 : S.command ≠ 0 := by omega
        refine ⟨c, d ++ [o], hc, ?_, ?_, ?_⟩
        · rw [e]; split
          · exact e0
          · exact e0
        · have := hn.fig hf
          rw [e]
          by_cases hl : S.nums.length ≤ 8
          · rw [if_pos ⟨hc0, hl⟩]; rw [if_pos hl] at this; exact this
          · rw [if_neg (fun q => hl q.2)]; rw [if_neg hl] at this; exact this
        · rw [List.takeWhile_cons_of_pos hns, List.append_assoc]; rfl
  · by_cases hs : o = 59
    · subst hs
      have hns : isNS 59 = true := rfl
      rw [stepC_ns hns]
      obtain ⟨rel, ⟨j, k⟩, w⟩ := P
      have e : putI most S (59 : Nat) = if S.command ≠ 0 ∧ S.nums.length ≤ 8 then { S with nums := S.nums ++ [0] } else S := by
        unfold putI; rw [if_neg (by omega), if_pos (by omega)]
      refine ⟨H, ?_, ⟨_, k.put⟩, ?_⟩
      · rw [e]; split
        · exact rel.side _ _
        · exact rel
      · rcases w with ⟨e0, rfl⟩ | ⟨c, d, hc, e0, hn, rfl⟩
        · left; rw [e, if_neg (fun q => q.1 e0)]; exact ⟨e0, rfl⟩
        · right
          have hc0 : S.command ≠ 0 := by omega
          refine ⟨c, d ++ [59], hc, ?_, ?_, ?_⟩
          · rw [e]; split
            · exact e0
            · exact e0
          · have := hn.semi
            rw [e]
            by_cases hl : S.nums.length ≤ 8
            · rw [if_pos ⟨hc0, hl⟩]; rw [if_pos hl] at this; exact this
            · rw [if_neg (fun q => hl q.2)]; rw [if_neg hl] at this; exact this
          · rw [List.takeWhile_cons_of_pos hns, List.append_assoc]; rfl
    · have hns : ¬ isNS o = true := fun q => by have := of_decide_eq_true q; omega
      have R := P.fin (List.takeWhile_cons_of_neg hns)
      have e0 : (endI most S).command = 0 := end_cmd
      obtain ⟨_, ⟨j, k⟩, _⟩ := P
      have kp : ∃ j, Ok most j (putI most S o) := ⟨_, k.put (o := o)⟩
      unfold putI at kp ⊢
      unfold stepC
      rw [if_neg (show ¬(48 ≤ (o : Int) ∧ (o : Int) ≤ 57) by omega), if_neg (show ¬(o : Int) = 59 by omega)] at kp ⊢
      by_cases h1 : o = 33 ∨ o = 35 ∨ o = 34
      · rw [if_pos (show (o : Int) = 33 ∨ (o : Int) = 34 ∨ (o : Int) = 35 by omega)] at kp ⊢
        rw [if_pos h1]
        exact ⟨H', R.side _ _, kp, .inr ⟨o, [], by omega, rfl, NR.nil, rfl⟩⟩
      · rw [if_neg (show ¬((o : Int) = 33 ∨ (o : Int) = 34 ∨ (o : Int) = 35) by omega)] at kp ⊢
        rw [if_neg h1]
        by_cases h2 : 63 ≤ o ∧ o ≤ 126
        · rw [if_pos (show 63 ≤ (o : Int) ∧ (o : Int) ≤ 126 by omega)] at kp ⊢
          rw [if_neg (show ¬(o = 36 ∨ o = 45) by omega), if_pos h2]
          refine ⟨_, R.sign _, kp, .inl ⟨?_, rfl⟩⟩
          show (drawI most (endI most S) _).command = 0
          unfold drawI
          split <;> exact e0
        · rw [if_neg (show ¬(63 ≤ (o : Int) ∧ (o : Int) ≤ 126) by omega)] at kp ⊢
          rw [if_neg h2]
          by_cases h3 : o = 36 ∨ o = 45
          · rw [if_pos (show (o : Int) = 36 ∨ (o : Int) = 45 by omega)] at kp ⊢
            rw [if_pos h3]
            have ek : (if (o : Int) = 45 then (1 : Int) else 0) = if o = 45 then 1 else 0 := by
              by_cases q : o = 45
              · rw [if_pos q, if_pos (by omega)]
              · rw [if_neg q, if_neg (by omega)]
            rw [ek] at kp ⊢
            refine ⟨_, R.step ?_, kp, .inl ⟨e0, rfl⟩⟩
            split <;> decide
          · rw [if_neg (show ¬((o : Int) = 36 ∨ (o : Int) = 45) by omega)] at kp ⊢
            rw [if_neg h3]
            exact ⟨H', R, kp, .inl ⟨e0, rfl⟩⟩
theorem Pend.all {most : Int} : ∀ {r : List Nat} {S : RS} {H H' : SH}, Pend most S H H' r → Rel most (endI most ((r.map fun c : Nat => (c : Int)).foldl (putI most) S)) (goL most H' r)
  | [], _, _, _, P => P.fin rfl
  | o :: r, S, H, H', P => by
    obtain ⟨H2, P2⟩ := P.step
    exact P2.all
end Mine
end
section
open PySem PySem.W PySem.Calls PyProof.Rows
namespace Mine
theorem octs_of {x : Str} (h : ∀ c ∈ x.cps.toList, c < 256) : octs (byteArr (ordsOf x)) = ordsOf x := by
  unfold octs byteArr ordsOf
  rw [List.map_map, List.map_map]
  apply List.map_congr_left
  intro c hc
  have := h c hc
  show (((((c : Nat) : Int).toNat.toUInt8).toNat : Nat) : Int) = (c : Int)
  rw [Int.toNat_natCast]
  show (((UInt8.ofNat c).toNat : Nat) : Int) = (c : Int)
  rw [UInt8.toNat_ofNat']
  congr 1
  exact Nat.mod_eq_of_lt this
theorem agree {most : Int} {x : Str} (m1 : 1 ≤ most) (m2 : most ≤ 14) (hx : Pc x 854 336) : ∃ lp T H, Agree most x lp T H := by
  have hl : x.cps.toList.length ≤ 854 := by rw [Array.length_toList]; exact hx.len
  have R : Rel most (endI most (runI most (ordsOf x))) (readL most x.cps.toList x.length) := by
    have e : readL most x.cps.toList x.length = goL most SH0 x.cps.toList := by rw [← readL_all, Array.length_toList]; rfl
    rw [e]
    exact Pend.all (S := RS0) (H := SH0) ⟨Rel.start m1, ⟨_, runI_ok (os := []) m1 m2⟩, .inl ⟨rfl, rfl⟩⟩
  have K : Ok most ((ordsOf x).length + 1) (endI most (runI most (ordsOf x))) := (runI_ok m1 m2 (ordsOf x)).end
  have hK : (ordsOf x).length + 1 ≤ 855 := by unfold ordsOf; rw [List.length_map]; omega
  generalize hk : (ordsOf x).length + 1 = k at K hK
  refine ⟨_, endI most (runI most (ordsOf x)), _, by rw [octs_of hx.low], rfl, ?_, ?_, rfl, ?_, R.asp, fun q => by rw [R.cols], fun p hp => (R.pb.inn p hp).2.2⟩
  · refine ⟨m1, m2, R.pts, R.pb.nd, fun p hp => ?_, by rw [R.width]; exact R.w0, by rw [R.width]; exact R.w1, by rw [R.bands]; exact R.d0, fun p hp => ?_, ?_, by have := K.cols; omega⟩
    · obtain ⟨a, b, c⟩ := R.pb.inn p hp
      rw [R.bands, R.width, Int.mul_comm]
      exact ⟨a.1, a.2, b.1, b.2⟩
    · rw [R.told] at hp
      split at hp
      · cases hp
      · cases hp; exact ⟨R.s0.1, R.s0.2, R.s1.1, R.s1.2⟩
    · have := K.p
      rw [R.pts] at this
      unfold ptsOf at this
      rw [List.length_map] at this; omega
  · refine ⟨m1, m2, R.pb.nd, fun p hp => ?_, R.w0, R.w1, R.d0, ?_, R.s0.1, R.s0.2, R.s1.1, R.s1.2, ?_, ?_⟩
    · obtain ⟨a, b, c⟩ := R.pb.inn p hp
      exact ⟨a.1, a.2, b.1, b.2⟩
    · have := R.d1
      have := R.band
      have := K.b1
      omega
    · have := K.p
      rw [R.pts] at this
      unfold ptsOf at this
      rw [List.length_map] at this; omega
    · have := K.cols
      rw [R.cols] at this; omega
  · unfold shapeI shapeL
    rw [R.told, R.width, R.bands, Int.mul_comm]
    by_cases z : (readL most x.cps.toList x.length).size = (0, 0)
    · rw [if_pos z, if_neg (fun q => q z)]
    · rw [if_neg z, if_pos z]
end Mine
end
section
open PySem PySem.W PyProof.Rows PySem.Calls
set_option maxRecDepth 100000
namespace Mine
noncomputable def kView : Program := { PySem.Challenge.pw_pq1182_01 with main := { PySem.Challenge.pw_pq1182_01.main with body := PySem.Challenge.pw_pq1182_01.main.body.take 1 ++ (PySem.Challenge.pw_pq1182_01.main.body.drop 2).take 1 ++ (PySem.Challenge.pw_pq1182_01.main.body.drop 4).take 18 ++ PySem.Challenge.pw_pq1182_01.main.body.drop 24 } }
noncomputable def kLoose : List PySem.Str := [Str.ofString "Raster", Str.ofString "read_sixel"]
noncomputable def kH : Hook := kHook kHeap kAddrs (fun _ => by kernel_rfl)
theorem said0 : (PySem.Challenge.rw_pq1182_01).wellSaid = true := by kernel_rfl
theorem post_ok (as : List WData) : PySem.Challenge.rw_pq1182_01.row.claim.post as (WData.bool true) as = true :=
  postW_of (r := PySem.Challenge.rw_pq1182_01.row.toRowW) (X := true == true) (by rfl) (w_eq_bool (a := .res) (b := .lit (.bool true)) rfl rfl) rfl
theorem ints_len {vs : List Value} {ns : List Int} (h : IntsAre vs ns) : vs.length = ns.length := by
  induction h with
  | nil => rfl
  | cons _ _ _ ih => rw [List.length_cons, List.length_cons, ih]
theorem fin_law {w : World} {s₁ : Shared} {mg mb : Str → Option Value} {cl : Str → Option Addr} {mean : ExcName → Option Value} {sa : Addr} {ws : List Value} {ls : List Int}
    (kin : (kHeap w.params).In s₁.heap) (g : s₁.heap.Ns mainGlobals mg) (b : s₁.heap.Ns builtinsNs mb) (bi : ∀ x : Str, x ≠ "__name__" → mb x = bootBuiltins x) (nl : s₁.heap.NoLimit) (nd : ∃ mc, s₁.heap.Ns cStatics mc ∧ mc "sys.int_max_str_digits" = none) (se : s₁.heap.NoSeer)
    (hg : s₁.gens = #[]) (hL : s₁.heap.IsList sa ws.toArray) (hI : IntsAre ws ls) (hl : ls.length ≤ 63) {c : ClaimW} {args : List WData} (hn : ∀ e, c.raises args e = false) (hp : ∀ _ : Unit, c.post args (.bool true) args = true) :
    wpAny (model PySem.Challenge.pw_pq1182_01 w) callerA (call (.ref 200) [.ref sa]) (fun v s' => GoodWG c cl mean args s₁ (.ok (.ret v)) s') (fun e s' => GoodWG c cl mean args s₁ (.error e) s') s₁ := by
  have h := law_spec (C := ⟨w, s₁.heap, s₁.os, mg, mb, kin, g, b, bi, nl, nd, se⟩) (A := callerA) (n := 80) (sa := sa) (ws := ws.toArray) (ls := ls) Room.caller hL (by rw [List.toList_toArray]; exact hI) hl (by rw [List.size_toArray, ints_len hI]; omega) (fun most x m1 m2 hx => agree m1 m2 hx)
  refine wpAny_mono (h [] s₁.heap.get? s₁ [.ref sa] ⟨fun _ _ h => h, fun _ _ h => h, fun _ h => (nomatch h), List.nodup_nil, hg, rfl⟩ (.cons (.ref _) .nil)) ?_ fun _ _ e => e.elim
  rintro v s' ⟨f', x, l', hs, S, hv, rfl⟩
  cases hv
  exact GoodW.toG ⟨.inl ⟨_, _, _, rfl, hn, .bool true, hp (), fun _ => ⟨List.nodup_nil, fun _ h => (nomatch h)⟩⟩, fun b o e => S.live _ _ (S.base _ _ e), S.os, S.gens⟩
end Mine
open Mine
set_option maxRecDepth 100000 in
set_option maxHeartbeats 8000000 in
theorem PySem.Challenge.cw_pq1182_01_holds : PySem.Challenge.rw_pq1182_01.Holds := by
  w_on
  refine holds_law said0 fun said => ?_
  refine holds_open (q := kView) (loose := kLoose) (Xt := fun s => xlAt kView [] s && recOk (RowW.records (OpenRow.toRowW (OpenLaw.row PySem.Challenge.rw_pq1182_01))) s) (XP := XL kView []) (Yf := Hook.obs kH) (Ya := Hook.val kH) (YP := Hook.says kH) (N := 2760) ?hl (Hook.of kH) (Hook.keeps kH) (fun s e => xl_of s (Bool.and_eq_true_iff.mp e).1) XL.keeps (by rfl) (by rfl) (by rfl) (fun s e => recFacts_of (Bool.and_eq_true_iff.mp e).2) (by rfl) said (by decide +kernel) ⟨rfl, rfl, rfl, rfl, rfl, by decide +kernel⟩ ?hw ?hc
  case hl => intro w; kernel_rfl
  case hw => w_witness2
  intro w s₀ s₁ mg mb G Y fa o pm cd doc dV kV ho hd hcd hD hmg hg args vals as hpre hlay hrd hwl hlo
  have KX := kIn_of Y
  have X := (Ground.X G).1
  have V := (Ground.X G).2
  refine Ground.open G ?_
  intro T B D TE TW
  try (refine guard_noD D (by decide +kernel) ?_; clear D)
  wrow_args hpre hlay hrd hwl hlo
  case hc =>
    rename_i ls hs hlay0 hL1 hr1 hl2 w4 w3 sa ws w0 hL ra w1 r0 hI hr hlen htr
    have e200 : mg (Str.ofString "law") = some (.ref 200) := mg_of KX T.g rfl
    have efa : some (Value.ref fa) = some (.ref 200) := hmg.symm.trans e200
    obtain rfl : fa = 200 := Value.ref.inj (Option.some.inj efa)
    exact fin_law KX T.g T.b T.builtins T.nolimit T.nodigits (T.seer rfl) hg hL hI (by omega) (fun _ => rfl) (fun _ => post_ok _)
end
