import PyProof.Rows.All
import Wide.All
import OpenK.AllK
import Wide.FinOn
import Lean
import PySem.Challenge.RW_og0294_01
open PySem PySem.W PyProof.Rows PySem.Spec PySem.Calls
set_option Elab.async false
set_option compiler.extract_closed false
set_option maxRecDepth 100000
set_option linter.all false
namespace Mine
section
noncomputable abbrev pw : Program := PySem.Challenge.pw_og0294_01
noncomputable abbrev sE (P : Params) (x : Str) (t : Tok) (v : Value) : DictEntry := ⟨PyData.keyHash P x, .str x t, v⟩
noncomputable def at1 (i : Nat) : Stmt := (PySem.Challenge.pw_og0294_01.main.body[i]?).getD (.Pass ⟨0, 0, 0, 0⟩)
noncomputable def at2 (i j : Nat) : Stmt := match at1 i with | .ClassDef _ _ _ b _ _ _ _ _ _ _ => (b[j]?).getD (.Pass ⟨0, 0, 0, 0⟩) | s => s
noncomputable def fdA (s : Stmt) (name qual : Str) (g : Addr) (dV kV doc pm : Value) (an : Option Addr) (cdv ct : Value) (bi : Addr) : FuncData :=
  match s with
  | .FunctionDef _ a b _ _ _ sc _ _ _ => { name, qualname := qual, params := a, body := .stmts b, scope := sc, globals := g, closure := [], defaults := dV, kwdefaults := kV, doc, pyModule := pm, annotations := an, code := cdv, closureTuple := ct, builtins := bi }
  | _ => default
noncomputable abbrev mkF {n : Str} {a : Arguments} {b : List Stmt} {d : List PySem.Expr} {r : Option PySem.Expr} {tp : List TypeParam} {sc : Scope} {ts : Option Scope} {bn : Str} {ps : Pos} (s : Stmt) (_h : s = .FunctionDef n a b d r tp sc ts bn ps)
    (name qual : Str) (g : Addr) (dV kV doc pm : Value) (an : Option Addr) (cdv ct : Value) (bi : Addr) : FuncData :=
  { name, qualname := qual, params := a, body := .stmts b, scope := sc, globals := g, closure := [], defaults := dV, kwdefaults := kV, doc, pyModule := pm, annotations := an, code := cdv, closureTuple := ct, builtins := bi }
noncomputable abbrev tpO (l : Array Value) : Obj := ⟨.type "tuple", none, .seq l 0, #[]⟩
noncomputable abbrev cdO (x : Str) (a : Tok) (y : Str) (b c : Tok) (l n f : Int) (r1 : Addr) (q : Bool) (r2 : Addr) (v1 v2 v3 : Value) (k m : Int) (d : Tok) : Obj := ⟨.type "code", none, .fields #[.str x a, .str y b, .str "/claim/cut.py" c, .int l 0, .int n 0, .int 0 0, .int 0 0, .int f 0, .ref r1, .bool q, .int 181 0, .ref r2, .none, v1, v2, v3, .int k 0, .int m 0, .str "/claim/cut.py" d], #[]⟩
section
variable (P : Params)
noncomputable def o2 : Obj := ⟨.none, none, (.dict #[sE P "type.__subclasses__.Exception.0" 242 (.int 40 0), sE P "type.__subclasses__.Exception.n" 243 (.int 1 0)] 2), #[]⟩
noncomputable def o3 : Obj := ⟨(.type "dict"), none, (.dict #[sE P "__name__" 165 (.str "law_og0294_01" 1895), sE P "__doc__" 166 .none, sE P "__package__" 167 .none, sE P "__loader__" 168 (.builtin "__main__.__loader__#opaque"), sE P "__spec__" 169 .none, sE P "__annotations__" 170 (.ref 6), sE P "__builtins__" 171 (.ref 4), sE P "__file__" 173 (.str "/claim/cut.py" 172), sE P "__cached__" 174 .none, sE P "_wall" 193 (.ref 21), sE P "BOLD" 197 (.int 1 196), sE P "BLINK" 199 (.int 8 198), sE P "INVERSE" 201 (.int 32 200), sE P "UNDER_SHIFT" 203 (.int 9 202), sE P "UNDER_MASK" 206 (.int 3584 205), sE P "NO_COLOUR" 209 (.int (-1) 208), sE P "PLAIN" 212 (.ref 22), sE P "BACK" 214 (.int 2 213), sE P "BLANK" 216 (.int 32 215), sE P "TermError" 245 (.ref 40), sE P "BadSize" 261 (.ref 53), sE P "clamp" 270 (.ref 62), sE P "decimal_octets" 279 (.ref 69), sE P "number_of" 288 (.ref 76), sE P "under_of" 295 (.ref 83), sE P "flags_with_under" 303 (.ref 90), sE P "erased_pen" 310 (.ref 97), sE P "blank_cell" 317 (.ref 104), sE P "is_blank" 324 (.ref 111), sE P "REPORT_BASE" 328 (.int 64 327), sE P "LAST_ROW_FINALS" 330 (.int 126 329), sE P "report_numbers" 336 (.ref 116), sE P "bits_octet" 346 (.ref 123), sE P "octet_bits" 352 (.ref 128), sE P "cursor_report" 358 (.ref 133), sE P "designated_names" 370 (.ref 140), sE P "cursor_fields" 376 (.ref 145), sE P "restore_cursor_report" 401 (.ref 152), sE P "restore_tab_report" 407 (.ref 157), sE P "MOUSE_MODES" 414 (.ref 158), sE P "MOUSE_ENCODINGS" 419 (.ref 159), sE P "FIRST_ON" 425 (.ref 160), sE P "modes_group" 432 (.ref 167), sE P "Modes" 480 (.ref 198), sE P "WIDTH_PICTURE" 484 (.int 65039 483), sE P "WIDTH_KEYCAP" 486 (.int 8419 485), sE P "FIRST_REGION" 489 (.int 127462 487), sE P "LAST_REGION" 490 (.int 127487 488), sE P "width_in_ranges" 501 (.ref 213), sE P "width_check_ranges" 512 (.ref 220), sE P "WidthTable" 562 (.ref 251), sE P "is_region" 569 (.ref 262), sE P "cluster_width" 575 (.ref 267), sE P "ASCII_SET" 579 (.bytes #[66] 578), sE P "SUPPLEMENT_SET" 581 (.bytes #[37, 53] 580), sE P "LATIN_SET" 583 (.bytes #[45, 65] 582), sE P "LEFT_FIRST" 585 (.int 32 584), sE P "LEFT_LAST" 587 (.int 127 586), sE P "HIGH_BIT" 589 (.int 128 588), sE P "CHARSET_NAMES" 609 (.ref 268), sE P "charset_pairs" 617 (.ref 275), sE P "charset_drawing" 624 (.ref 282), sE P "charset_supplement" 633 (.ref 289), sE P "charset_national" 640 (.ref 296), sE P "charset_table" 647 (.ref 303), sE P "Charsets" 758 (.ref 392), sE P "TAB_WIDTH" 762 (.int 8 761), sE P "Cursor" 826 (.ref 441), sE P "Margins" 987 (.ref 574), sE P "Tabs" 1106 (.ref 673), sE P "LINE_SIZES" 1113 (.ref 678), sE P "line_blanks" 1121 (.ref 685), sE P "right_half" 1128 (.ref 692), sE P "line_part" 1136 (.ref 699), sE P "line_slice" 1146 (.ref 706), sE P "line_codes" 1156 (.ref 713), sE P "Line" 1333 (.ref 838), sE P "Grid" 1546 (.ref 987), sE P "grid_cut" 1553 (.ref 998), sE P "grid_mended" 1561 (.ref 1005), sE P "WIDE_SIZES" 1567 (.ref 1006), sE P "Screen" 1894 (.ref 1271), sE P "_law_deck" 1902 (.ref 1280), sE P "_law_draw" 1912 (.ref 1287), sE P "_law_pick" 1920 (.ref 1294), sE P "_law_screen" 1926 (.ref 1299), sE P "_law_state" 1936 (.ref 1306), sE P "_law_bits" 1942 (.ref 1311), sE P "_law_decimal" 1948 (.ref 1316), sE P "_law_fields" 1954 (.ref 1321), sE P "_law_put" 1970 (.ref 1328), sE P "_law_spoilt" 1981 (.ref 1335), sE P "_law_tabs_right" 1987 (.ref 1340), sE P "law" 2000 (.ref 1347)] 94), #[]⟩
noncomputable def o11 : Obj := tpO #[]
noncomputable def o12 : Obj := ⟨.none, none, (.fields #[(.int 1 0), (.int 0 0), (.ref 20), (.int 14 0), (.int 0 0), (.ref 28), (.int 18 0), (.int 0 0), (.ref 49), (.int 20 0), (.int 0 0), (.ref 61), (.int 22 0), (.int 0 0), (.ref 68), (.int 32 0), (.int 0 0), (.ref 75), (.int 41 0), (.int 0 0), (.ref 82), (.int 43 0), (.int 0 0), (.ref 89), (.int 45 0), (.int 0 0), (.ref 96), (.int 47 0), (.int 0 0), (.ref 103), (.int 49 0), (.int 0 0), (.ref 110), (.int 54 0), (.int 0 0), (.ref 115), (.int 56 0), (.int 0 0), (.ref 122), (.int 61 0), (.int 0 0), (.ref 127), (.int 65 0), (.int 0 0), (.ref 132), (.int 70 0), (.int 0 0), (.ref 139), (.int 79 0), (.int 0 0), (.ref 144), (.int 89 0), (.int 0 0), (.ref 151), (.int 108 0), (.int 0 0), (.ref 156), (.int 116 0), (.int 0 0), (.ref 166), (.int 120 0), (.int 0 0), (.ref 173), (.int 140 0), (.int 0 0), (.ref 212), (.int 149 0), (.int 0 0), (.ref 219), (.int 155 0), (.int 0 0), (.ref 226), (.int 171 0), (.int 0 0), (.ref 261), (.int 173 0), (.int 0 0), (.ref 266), (.int 189 0), (.int 0 0), (.ref 274), (.int 191 0), (.int 0 0), (.ref 281), (.int 200 0), (.int 0 0), (.ref 288), (.int 209 0), (.int 0 0), (.ref 295), (.int 229 0), (.int 0 0), (.ref 302), (.int 239 0), (.int 0 0), (.ref 309), (.int 287 0), (.int 0 0), (.ref 402), (.int 310 0), (.int 0 0), (.ref 451), (.int 367 0), (.int 0 0), (.ref 584), (.int 414 0), (.int 0 0), (.ref 684), (.int 416 0), (.int 0 0), (.ref 691), (.int 418 0), (.int 0 0), (.ref 698), (.int 422 0), (.int 0 0), (.ref 705), (.int 429 0), (.int 0 0), (.ref 712), (.int 438 0), (.int 0 0), (.ref 719), (.int 522 0), (.int 0 0), (.ref 848), (.int 620 0), (.int 0 0), (.ref 997), (.int 622 0), (.int 0 0), (.ref 1004), (.int 631 0), (.int 0 0), (.ref 1012), (.int 796 0), (.int 0 0), (.ref 1279), (.int 801 0), (.int 0 0), (.ref 1286), (.int 813 0), (.int 0 0), (.ref 1293), (.int 815 0), (.int 0 0), (.ref 1298), (.int 833 0), (.int 0 0), (.ref 1305), (.int 837 0), (.int 0 0), (.ref 1310), (.int 839 0), (.int 0 0), (.ref 1315), (.int 841 0), (.int 0 0), (.ref 1320), (.int 848 0), (.int 0 0), (.ref 1327), (.int 857 0), (.int 0 0), (.ref 1334), (.int 877 0), (.int 0 0), (.ref 1339), (.int 886 0), (.int 0 0), (.ref 1346)]), #[]⟩
noncomputable def o13 : Obj := cdO "<module>" 182 "<module>" 183 184 1 0 0 11 false 12 .none .none .none 185 1 186
noncomputable def o14 : Obj := ⟨(.type "frame"), none, .plain, #[(some (.ref 13)), (some (.ref 3)), (some (.ref 3)), none, (some (.str "__main__" 164)), none, (some (.ref 0))]⟩
noncomputable def o16 : Obj := ⟨.none, none, (.fields #[]), #[]⟩
noncomputable def o17 : Obj := tpO #[(.str "k" 190)]
noncomputable def o19 : Obj := ⟨.none, none, (.func (fdA (at1 0) "_wall" "_wall" 0 .none .none .none .none none .none .none 0)), #[]⟩
noncomputable def o20 : Obj := cdO "_wall" 187 "_wall" 188 189 1 1 3 15 true 16 (.ref 17) (.ref 18) (.ref 19) 191 1 192
noncomputable def o21 : Obj := ⟨(.type "function"), none, (.func (fdA (at1 0) "_wall" "_wall" 3 .none .none .none (.str "__main__" 164) none (.ref 20) .none 0)), #[]⟩
noncomputable def o22 : Obj := tpO #[(.int 0 210), (.int (-1) 208), (.int (-1) 208), (.int (-1) 208), (.int 0 211)]
noncomputable def o23 : Obj := tpO #[(.type "Exception")]
noncomputable def o24 : Obj := ⟨(.type "builtin_function_or_method"), none, (.fields #[(.builtin "type.__prepare__"), (.type "type")]), #[]⟩
noncomputable def o25 : Obj := ⟨(.type "dict"), none, (.dict #[sE P "__module__" 224 (.str "termcore.base" 194), sE P "__qualname__" 226 (.str "TermError" 225), sE P "__firstlineno__" 228 (.int 14 227), sE P "__init__" 236 (.ref 37), sE P "__static_attributes__" 238 (.ref 38)] 5), #[]⟩
noncomputable def o27 : Obj := ⟨.none, none, (.fields #[(.int 16 0), (.int 4 0), (.ref 36)]), #[]⟩
noncomputable def o28 : Obj := cdO "TermError" 219 "TermError" 220 221 14 0 0 26 false 27 .none .none .none 222 14 223
noncomputable def o29 : Obj := ⟨(.type "frame"), none, .plain, #[(some (.ref 28)), (some (.ref 3)), (some (.ref 25)), none, (some (.str "termcore.base" 194)), none, (some (.ref 0))]⟩
noncomputable def o30 : Obj := tpO #[.none]
noncomputable def o33 : Obj := tpO #[(.str "self" 232), (.str "told" 233)]
noncomputable def o35 : Obj := ⟨.none, none, (.func (fdA (at2 11 0) "__init__" "TermError.__init__" 0 .none .none .none .none none .none .none 0)), #[]⟩
noncomputable def o36 : Obj := cdO "__init__" 229 "TermError.__init__" 230 231 16 2 3 31 true 32 (.ref 33) (.ref 34) (.ref 35) 234 16 235
noncomputable def o37 : Obj := ⟨(.type "function"), none, (.func (fdA (at2 11 0) "__init__" "TermError.__init__" 3 (.ref 30) .none .none (.str "termcore.base" 194) none (.ref 36) .none 0)), #[]⟩
noncomputable def o38 : Obj := tpO #[(.str "told" 237)]
noncomputable def o39 : Obj := ⟨(.type "dict"), none, (.dict #[sE P "__module__" 224 (.str "termcore.base" 194), sE P "__firstlineno__" 228 (.int 14 227), sE P "__init__" 236 (.ref 37), sE P "__static_attributes__" 238 (.ref 38), sE P "__weakref__" 240 (.ref 41), sE P "__doc__" 241 .none] 3), #[]⟩
noncomputable def o40 : Obj := ⟨(.type "type"), none, (.cls ⟨"TermError", [(.type "Exception")], [(.ref 40), (.type "Exception"), (.type "BaseException"), (.type "object")], 39, "TermError", true, [], [(.ref 53)], false, none, false⟩), #[(some (.ref 23)), none, (some (.str "TermError" 217)), (some (.str "TermError" 225)), (some (.builtin "Exception.__new__")), (some (.bool true))]⟩
noncomputable def o41 : Obj := ⟨(.type "getset_descriptor"), none, (.fields #[(.str "__weakref__" 239), (.ref 40), (.builtin "ExceptionGroup.__weakref__"), .none]), #[]⟩
noncomputable def o42 : Obj := ⟨(.type "super"), none, (.fields #[(.ref 40), (.ref 40), (.ref 40)]), #[]⟩
noncomputable def o43 : Obj := ⟨(.type "builtin_function_or_method"), none, (.fields #[(.builtin "object.__init_subclass__"), (.ref 40)]), #[]⟩
noncomputable def o44 : Obj := tpO #[(.ref 40)]
noncomputable def o46 : Obj := ⟨(.type "dict"), none, (.dict #[sE P "__module__" 253 (.str "termcore.base" 194), sE P "__qualname__" 255 (.str "BadSize" 254), sE P "__firstlineno__" 257 (.int 18 256), sE P "__static_attributes__" 258 (.ref 51)] 4), #[]⟩
noncomputable def o49 : Obj := cdO "BadSize" 248 "BadSize" 249 250 18 0 0 47 false 48 .none .none .none 251 18 252
noncomputable def o50 : Obj := ⟨(.type "frame"), none, .plain, #[(some (.ref 49)), (some (.ref 3)), (some (.ref 46)), none, (some (.str "termcore.base" 194)), none, (some (.ref 0))]⟩
noncomputable def o52 : Obj := ⟨(.type "dict"), none, (.dict #[sE P "__module__" 253 (.str "termcore.base" 194), sE P "__firstlineno__" 257 (.int 18 256), sE P "__static_attributes__" 258 (.ref 51), sE P "__doc__" 259 .none] 2), #[]⟩
noncomputable def o53 : Obj := ⟨(.type "type"), none, (.cls ⟨"BadSize", [(.ref 40)], [(.ref 53), (.ref 40), (.type "Exception"), (.type "BaseException"), (.type "object")], 52, "BadSize", true, [], [], false, none, false⟩), #[(some (.ref 44)), none, (some (.str "BadSize" 246)), (some (.str "BadSize" 254)), (some (.builtin "Exception.__new__")), (some (.bool true))]⟩
noncomputable def o54 : Obj := ⟨(.type "super"), none, (.fields #[(.ref 53), (.ref 53), (.ref 53)]), #[]⟩
noncomputable def o55 : Obj := ⟨(.type "builtin_function_or_method"), none, (.fields #[(.builtin "object.__init_subclass__"), (.ref 53)]), #[]⟩
noncomputable def o58 : Obj := tpO #[(.str "value" 265), (.str "least" 266), (.str "most" 267)]
noncomputable def o60 : Obj := ⟨.none, none, (.func (fdA (at1 13) "clamp" "clamp" 0 .none .none .none .none none .none .none 0)), #[]⟩
noncomputable def o61 : Obj := cdO "clamp" 262 "clamp" 263 264 20 3 3 56 true 57 (.ref 58) (.ref 59) (.ref 60) 268 20 269
noncomputable def o62 : Obj := ⟨(.type "function"), none, (.func (fdA (at1 13) "clamp" "clamp" 3 .none .none .none (.str "termcore.base" 194) none (.ref 61) .none 0)), #[]⟩
noncomputable def o65 : Obj := tpO #[(.str "number" 274), (.str "rest" 275), (.str "found" 276)]
noncomputable def o67 : Obj := ⟨.none, none, (.func (fdA (at1 14) "decimal_octets" "decimal_octets" 0 .none .none .none .none none .none .none 0)), #[]⟩
noncomputable def o68 : Obj := cdO "decimal_octets" 271 "decimal_octets" 272 273 22 1 3 63 true 64 (.ref 65) (.ref 66) (.ref 67) 277 22 278
noncomputable def o69 : Obj := ⟨(.type "function"), none, (.func (fdA (at1 14) "decimal_octets" "decimal_octets" 3 .none .none .none (.str "termcore.base" 194) none (.ref 68) .none 0)), #[]⟩
noncomputable def o72 : Obj := tpO #[(.str "octets" 283), (.str "number" 284), (.str "octet" 285)]
noncomputable def o74 : Obj := ⟨.none, none, (.func (fdA (at1 15) "number_of" "number_of" 0 .none .none .none .none none .none .none 0)), #[]⟩
noncomputable def o75 : Obj := cdO "number_of" 280 "number_of" 281 282 32 1 3 70 true 71 (.ref 72) (.ref 73) (.ref 74) 286 32 287
noncomputable def o76 : Obj := ⟨(.type "function"), none, (.func (fdA (at1 15) "number_of" "number_of" 3 .none .none .none (.str "termcore.base" 194) none (.ref 75) .none 0)), #[]⟩
noncomputable def o79 : Obj := tpO #[(.str "flags" 292)]
noncomputable def o81 : Obj := ⟨.none, none, (.func (fdA (at1 16) "under_of" "under_of" 0 .none .none .none .none none .none .none 0)), #[]⟩
noncomputable def o82 : Obj := cdO "under_of" 289 "under_of" 290 291 41 1 3 77 true 78 (.ref 79) (.ref 80) (.ref 81) 293 41 294
noncomputable def o83 : Obj := ⟨(.type "function"), none, (.func (fdA (at1 16) "under_of" "under_of" 3 .none .none .none (.str "termcore.base" 194) none (.ref 82) .none 0)), #[]⟩
noncomputable def o86 : Obj := tpO #[(.str "flags" 299), (.str "kind" 300)]
noncomputable def o88 : Obj := ⟨.none, none, (.func (fdA (at1 17) "flags_with_under" "flags_with_under" 0 .none .none .none .none none .none .none 0)), #[]⟩
noncomputable def o89 : Obj := cdO "flags_with_under" 296 "flags_with_under" 297 298 43 2 3 84 true 85 (.ref 86) (.ref 87) (.ref 88) 301 43 302
noncomputable def o90 : Obj := ⟨(.type "function"), none, (.func (fdA (at1 17) "flags_with_under" "flags_with_under" 3 .none .none .none (.str "termcore.base" 194) none (.ref 89) .none 0)), #[]⟩
noncomputable def o93 : Obj := tpO #[(.str "pen" 307)]
noncomputable def o95 : Obj := ⟨.none, none, (.func (fdA (at1 18) "erased_pen" "erased_pen" 0 .none .none .none .none none .none .none 0)), #[]⟩
noncomputable def o96 : Obj := cdO "erased_pen" 304 "erased_pen" 305 306 45 1 3 91 true 92 (.ref 93) (.ref 94) (.ref 95) 308 45 309
noncomputable def o97 : Obj := ⟨(.type "function"), none, (.func (fdA (at1 18) "erased_pen" "erased_pen" 3 .none .none .none (.str "termcore.base" 194) none (.ref 96) .none 0)), #[]⟩
noncomputable def o100 : Obj := tpO #[(.str "pen" 314)]
noncomputable def o102 : Obj := ⟨.none, none, (.func (fdA (at1 19) "blank_cell" "blank_cell" 0 .none .none .none .none none .none .none 0)), #[]⟩
noncomputable def o103 : Obj := cdO "blank_cell" 311 "blank_cell" 312 313 47 1 3 98 true 99 (.ref 100) (.ref 101) (.ref 102) 315 47 316
noncomputable def o104 : Obj := ⟨(.type "function"), none, (.func (fdA (at1 19) "blank_cell" "blank_cell" 3 .none .none .none (.str "termcore.base" 194) none (.ref 103) .none 0)), #[]⟩
noncomputable def o107 : Obj := tpO #[(.str "cell" 321)]
noncomputable def o109 : Obj := ⟨.none, none, (.func (fdA (at1 20) "is_blank" "is_blank" 0 .none .none .none .none none .none .none 0)), #[]⟩
noncomputable def o110 : Obj := cdO "is_blank" 318 "is_blank" 319 320 49 1 3 105 true 106 (.ref 107) (.ref 108) (.ref 109) 322 49 323
noncomputable def o111 : Obj := ⟨(.type "function"), none, (.func (fdA (at1 20) "is_blank" "is_blank" 3 .none .none .none (.str "termcore.base" 194) none (.ref 110) .none 0)), #[]⟩
noncomputable def o114 : Obj := ⟨.none, none, (.func (fdA (at1 24) "report_numbers" "report_numbers" 0 .none .none .none .none none .none .none 0)), #[]⟩
noncomputable def o115 : Obj := cdO "report_numbers" 331 "report_numbers" 332 333 54 1 3 112 true 113 .none .none (.ref 114) 334 54 335
noncomputable def o116 : Obj := ⟨(.type "function"), none, (.func (fdA (at1 24) "report_numbers" "report_numbers" 3 .none .none .none (.str "termcore.reports" 325) none (.ref 115) .none 0)), #[]⟩
noncomputable def o119 : Obj := tpO #[(.str "truths" 340), (.str "found" 341), (.str "place" 342), (.str "truth" 343)]
noncomputable def o121 : Obj := ⟨.none, none, (.func (fdA (at1 25) "bits_octet" "bits_octet" 0 .none .none .none .none none .none .none 0)), #[]⟩
noncomputable def o122 : Obj := cdO "bits_octet" 337 "bits_octet" 338 339 56 1 3 117 true 118 (.ref 119) (.ref 120) (.ref 121) 344 56 345
noncomputable def o123 : Obj := ⟨(.type "function"), none, (.func (fdA (at1 25) "bits_octet" "bits_octet" 3 .none .none .none (.str "termcore.reports" 325) none (.ref 122) .none 0)), #[]⟩
noncomputable def o126 : Obj := ⟨.none, none, (.func (fdA (at1 26) "octet_bits" "octet_bits" 0 .none .none .none .none none .none .none 0)), #[]⟩
noncomputable def o127 : Obj := cdO "octet_bits" 347 "octet_bits" 348 349 61 2 3 124 true 125 .none .none (.ref 126) 350 61 351
noncomputable def o128 : Obj := ⟨(.type "function"), none, (.func (fdA (at1 26) "octet_bits" "octet_bits" 3 .none .none .none (.str "termcore.reports" 325) none (.ref 127) .none 0)), #[]⟩
noncomputable def o131 : Obj := ⟨.none, none, (.func (fdA (at1 27) "cursor_report" "cursor_report" 0 .none .none .none .none none .none .none 0)), #[]⟩
noncomputable def o132 : Obj := cdO "cursor_report" 353 "cursor_report" 354 355 65 1 3 129 true 130 .none .none (.ref 131) 356 65 357
noncomputable def o133 : Obj := ⟨(.type "function"), none, (.func (fdA (at1 27) "cursor_report" "cursor_report" 3 .none .none .none (.str "termcore.reports" 325) none (.ref 132) .none 0)), #[]⟩
noncomputable def o136 : Obj := tpO #[(.str "octets" 362), (.str "bits" 363), (.str "names" 364), (.str "word" 365), (.str "octet" 366), (.str "is_long" 367)]
noncomputable def o138 : Obj := ⟨.none, none, (.func (fdA (at1 28) "designated_names" "designated_names" 0 .none .none .none .none none .none .none 0)), #[]⟩
noncomputable def o139 : Obj := cdO "designated_names" 359 "designated_names" 360 361 70 2 3 134 true 135 (.ref 136) (.ref 137) (.ref 138) 368 70 369
noncomputable def o140 : Obj := ⟨(.type "function"), none, (.func (fdA (at1 28) "designated_names" "designated_names" 3 .none .none .none (.str "termcore.reports" 325) none (.ref 139) .none 0)), #[]⟩
noncomputable def o143 : Obj := ⟨.none, none, (.func (fdA (at1 29) "cursor_fields" "cursor_fields" 0 .none .none .none .none none .none .none 0)), #[]⟩
noncomputable def o144 : Obj := cdO "cursor_fields" 371 "cursor_fields" 372 373 79 1 3 141 true 142 .none .none (.ref 143) 374 79 375
noncomputable def o145 : Obj := ⟨(.type "function"), none, (.func (fdA (at1 29) "cursor_fields" "cursor_fields" 3 .none .none .none (.str "termcore.reports" 325) none (.ref 144) .none 0)), #[]⟩
noncomputable def o148 : Obj := tpO #[(.str "screen" 380), (.str "octets" 381), (.str "fields" 382), (.str "row" 383), (.str "column" 384), (.str "page" 385), (.str "pen" 386), (.str "guard" 387), (.str "pending" 388), (.str "left" 389), (.str "right" 390), (.str "long_ones" 391), (.str "names" 392), (.str "cursor" 393), (.str "sets" 394), (.str "flags" 395), (.str "kind" 396), (.str "place" 397), (.str "name" 398)]
noncomputable def o150 : Obj := ⟨.none, none, (.func (fdA (at1 30) "restore_cursor_report" "restore_cursor_report" 0 .none .none .none .none none .none .none 0)), #[]⟩
noncomputable def o151 : Obj := cdO "restore_cursor_report" 377 "restore_cursor_report" 378 379 89 2 3 146 true 147 (.ref 148) (.ref 149) (.ref 150) 399 89 400
noncomputable def o152 : Obj := ⟨(.type "function"), none, (.func (fdA (at1 30) "restore_cursor_report" "restore_cursor_report" 3 .none .none .none (.str "termcore.reports" 325) none (.ref 151) .none 0)), #[]⟩
noncomputable def o155 : Obj := ⟨.none, none, (.func (fdA (at1 31) "restore_tab_report" "restore_tab_report" 0 .none .none .none .none none .none .none 0)), #[]⟩
noncomputable def o156 : Obj := cdO "restore_tab_report" 402 "restore_tab_report" 403 404 108 2 3 153 true 154 .none .none (.ref 155) 405 108 406
noncomputable def o157 : Obj := ⟨(.type "function"), none, (.func (fdA (at1 31) "restore_tab_report" "restore_tab_report" 3 .none .none .none (.str "termcore.reports" 325) none (.ref 156) .none 0)), #[]⟩
noncomputable def o158 : Obj := tpO #[(.str "mouse_x10" 410), (.str "mouse_click" 411), (.str "mouse_drag" 412), (.str "mouse_all" 413)]
noncomputable def o159 : Obj := tpO #[(.str "mouse_utf8" 415), (.str "mouse_sgr" 416), (.str "mouse_urxvt" 417), (.str "mouse_pixels" 418)]
noncomputable def o160 : Obj := tpO #[(.str "send_receive" 420), (.str "autowrap" 421), (.str "autorepeat" 422), (.str "show_cursor" 423), (.str "num_lock" 424)]
noncomputable def o163 : Obj := tpO #[(.str "word" 429)]
noncomputable def o165 : Obj := ⟨.none, none, (.func (fdA (at1 36) "modes_group" "modes_group" 0 .none .none .none .none none .none .none 0)), #[]⟩
noncomputable def o166 : Obj := cdO "modes_group" 426 "modes_group" 427 428 116 1 3 161 true 162 (.ref 163) (.ref 164) (.ref 165) 430 116 431
noncomputable def o167 : Obj := ⟨(.type "function"), none, (.func (fdA (at1 36) "modes_group" "modes_group" 3 .none .none .none (.str "termcore.modes" 408) none (.ref 166) .none 0)), #[]⟩
noncomputable def o170 : Obj := ⟨(.type "dict"), none, (.dict #[sE P "__module__" 440 (.str "termcore.modes" 408), sE P "__qualname__" 442 (.str "Modes" 441), sE P "__firstlineno__" 444 (.int 120 443), sE P "__init__" 452 (.ref 181), sE P "is_on" 460 (.ref 188), sE P "set" 470 (.ref 195), sE P "__static_attributes__" 473 (.ref 196)] 7), #[]⟩
noncomputable def o172 : Obj := ⟨.none, none, (.fields #[(.int 122 0), (.int 4 0), (.ref 180), (.int 128 0), (.int 4 0), (.ref 187), (.int 131 0), (.int 4 0), (.ref 194)]), #[]⟩
noncomputable def o173 : Obj := cdO "Modes" 435 "Modes" 436 437 120 0 0 171 false 172 .none .none .none 438 120 439
noncomputable def o174 : Obj := ⟨(.type "frame"), none, .plain, #[(some (.ref 173)), (some (.ref 3)), (some (.ref 170)), none, (some (.str "termcore.modes" 408)), none, (some (.ref 0))]⟩
noncomputable def o177 : Obj := tpO #[(.str "self" 448), (.str "word" 449)]
noncomputable def o179 : Obj := ⟨.none, none, (.func (fdA (at2 37 0) "__init__" "Modes.__init__" 0 .none .none .none .none none .none .none 0)), #[]⟩
noncomputable def o180 : Obj := cdO "__init__" 445 "Modes.__init__" 446 447 122 1 3 175 true 176 (.ref 177) (.ref 178) (.ref 179) 450 122 451
noncomputable def o181 : Obj := ⟨(.type "function"), none, (.func (fdA (at2 37 0) "__init__" "Modes.__init__" 3 .none .none .none (.str "termcore.modes" 408) none (.ref 180) .none 0)), #[]⟩
noncomputable def o184 : Obj := tpO #[(.str "self" 456), (.str "word" 457)]
noncomputable def o186 : Obj := ⟨.none, none, (.func (fdA (at2 37 1) "is_on" "Modes.is_on" 0 .none .none .none .none none .none .none 0)), #[]⟩
noncomputable def o187 : Obj := cdO "is_on" 453 "Modes.is_on" 454 455 128 2 3 182 true 183 (.ref 184) (.ref 185) (.ref 186) 458 128 459
noncomputable def o188 : Obj := ⟨(.type "function"), none, (.func (fdA (at2 37 1) "is_on" "Modes.is_on" 3 .none .none .none (.str "termcore.modes" 408) none (.ref 187) .none 0)), #[]⟩
noncomputable def o191 : Obj := tpO #[(.str "self" 464), (.str "word" 465), (.str "is_on" 466), (.str "other" 467)]
noncomputable def o193 : Obj := ⟨.none, none, (.func (fdA (at2 37 2) "set" "Modes.set" 0 .none .none .none .none none .none .none 0)), #[]⟩
noncomputable def o194 : Obj := cdO "set" 461 "Modes.set" 462 463 131 3 3 189 true 190 (.ref 191) (.ref 192) (.ref 193) 468 131 469
noncomputable def o195 : Obj := ⟨(.type "function"), none, (.func (fdA (at2 37 2) "set" "Modes.set" 3 .none .none .none (.str "termcore.modes" 408) none (.ref 194) .none 0)), #[]⟩
noncomputable def o196 : Obj := tpO #[(.str "kept" 471), (.str "states" 472)]
noncomputable def o197 : Obj := ⟨(.type "dict"), none, (.dict #[sE P "__module__" 440 (.str "termcore.modes" 408), sE P "__firstlineno__" 444 (.int 120 443), sE P "__init__" 452 (.ref 181), sE P "is_on" 460 (.ref 188), sE P "set" 470 (.ref 195), sE P "__static_attributes__" 473 (.ref 196), sE P "__dict__" 475 (.ref 199), sE P "__weakref__" 477 (.ref 200), sE P "__doc__" 478 .none] 4), #[]⟩
noncomputable def o198 : Obj := ⟨(.type "type"), none, (.cls ⟨"Modes", [(.type "object")], [(.ref 198), (.type "object")], 197, "Modes", true, [], [], false, none, false⟩), #[none, none, (some (.str "Modes" 433)), (some (.str "Modes" 441)), (some (.builtin "object.__new__")), (some (.bool true))]⟩
noncomputable def o199 : Obj := ⟨(.type "getset_descriptor"), none, (.fields #[(.str "__dict__" 474), (.ref 198), (.builtin "function.__dict__"), (.builtin "function.__dict__#set")]), #[]⟩
noncomputable def o200 : Obj := ⟨(.type "getset_descriptor"), none, (.fields #[(.str "__weakref__" 476), (.ref 198), (.builtin "ExceptionGroup.__weakref__"), .none]), #[]⟩
noncomputable def o201 : Obj := ⟨(.type "super"), none, (.fields #[(.ref 198), (.ref 198), (.ref 198)]), #[]⟩
noncomputable def o202 : Obj := ⟨(.type "builtin_function_or_method"), none, (.fields #[(.builtin "object.__init_subclass__"), (.ref 198)]), #[]⟩
noncomputable def o203 : Obj := tpO #[(.int 127462 487), (.int 127487 488)]
noncomputable def o204 : Obj := ⟨(.type "tuple_iterator"), none, (.fields #[.none, (.int 2 0)]), #[]⟩
noncomputable def o206 : Obj := ⟨(.type "StopIteration"), none, (.fields #[(.ref 205), .none, .none, .none, (.bool false), .none]), #[]⟩
noncomputable def o209 : Obj := tpO #[(.str "ranges" 494), (.str "code" 495), (.str "low" 496), (.str "high" 497), (.str "middle" 498)]
noncomputable def o211 : Obj := ⟨.none, none, (.func (fdA (at1 42) "width_in_ranges" "width_in_ranges" 0 .none .none .none .none none .none .none 0)), #[]⟩
noncomputable def o212 : Obj := cdO "width_in_ranges" 491 "width_in_ranges" 492 493 140 2 3 207 true 208 (.ref 209) (.ref 210) (.ref 211) 499 140 500
noncomputable def o213 : Obj := ⟨(.type "function"), none, (.func (fdA (at1 42) "width_in_ranges" "width_in_ranges" 3 .none .none .none (.str "termcore.cellwidths" 481) none (.ref 212) .none 0)), #[]⟩
noncomputable def o216 : Obj := tpO #[(.str "ranges" 505), (.str "before" 506), (.str "place" 507), (.str "first" 508), (.str "last" 509)]
noncomputable def o218 : Obj := ⟨.none, none, (.func (fdA (at1 43) "width_check_ranges" "width_check_ranges" 0 .none .none .none .none none .none .none 0)), #[]⟩
noncomputable def o219 : Obj := cdO "width_check_ranges" 502 "width_check_ranges" 503 504 149 1 3 214 true 215 (.ref 216) (.ref 217) (.ref 218) 510 149 511
noncomputable def o220 : Obj := ⟨(.type "function"), none, (.func (fdA (at1 43) "width_check_ranges" "width_check_ranges" 3 .none .none .none (.str "termcore.cellwidths" 481) none (.ref 219) .none 0)), #[]⟩
noncomputable def o223 : Obj := ⟨(.type "dict"), none, (.dict #[sE P "__module__" 520 (.str "termcore.cellwidths" 481), sE P "__qualname__" 522 (.str "WidthTable" 521), sE P "__firstlineno__" 524 (.int 155 523), sE P "__init__" 535 (.ref 234), sE P "width_of" 543 (.ref 241), sE P "is_picture" 551 (.ref 248), sE P "__static_attributes__" 555 (.ref 249)] 7), #[]⟩
noncomputable def o225 : Obj := ⟨.none, none, (.fields #[(.int 157 0), (.int 4 0), (.ref 233), (.int 164 0), (.int 4 0), (.ref 240), (.int 169 0), (.int 4 0), (.ref 247)]), #[]⟩
noncomputable def o226 : Obj := cdO "WidthTable" 515 "WidthTable" 516 517 155 0 0 224 false 225 .none .none .none 518 155 519
noncomputable def o227 : Obj := ⟨(.type "frame"), none, .plain, #[(some (.ref 226)), (some (.ref 3)), (some (.ref 223)), none, (some (.str "termcore.cellwidths" 481)), none, (some (.ref 0))]⟩
noncomputable def o230 : Obj := tpO #[(.str "self" 528), (.str "wide" 529), (.str "marks" 530), (.str "joiners" 531), (.str "ranges" 532)]
noncomputable def o232 : Obj := ⟨.none, none, (.func (fdA (at2 44 0) "__init__" "WidthTable.__init__" 0 .none .none .none .none none .none .none 0)), #[]⟩
noncomputable def o233 : Obj := cdO "__init__" 525 "WidthTable.__init__" 526 527 157 4 3 228 true 229 (.ref 230) (.ref 231) (.ref 232) 533 157 534
noncomputable def o234 : Obj := ⟨(.type "function"), none, (.func (fdA (at2 44 0) "__init__" "WidthTable.__init__" 3 .none .none .none (.str "termcore.cellwidths" 481) none (.ref 233) .none 0)), #[]⟩
noncomputable def o237 : Obj := tpO #[(.str "self" 539), (.str "code" 540)]
noncomputable def o239 : Obj := ⟨.none, none, (.func (fdA (at2 44 1) "width_of" "WidthTable.width_of" 0 .none .none .none .none none .none .none 0)), #[]⟩
noncomputable def o240 : Obj := cdO "width_of" 536 "WidthTable.width_of" 537 538 164 2 3 235 true 236 (.ref 237) (.ref 238) (.ref 239) 541 164 542
noncomputable def o241 : Obj := ⟨(.type "function"), none, (.func (fdA (at2 44 1) "width_of" "WidthTable.width_of" 3 .none .none .none (.str "termcore.cellwidths" 481) none (.ref 240) .none 0)), #[]⟩
noncomputable def o244 : Obj := tpO #[(.str "self" 547), (.str "code" 548)]
noncomputable def o246 : Obj := ⟨.none, none, (.func (fdA (at2 44 2) "is_picture" "WidthTable.is_picture" 0 .none .none .none .none none .none .none 0)), #[]⟩
noncomputable def o247 : Obj := cdO "is_picture" 544 "WidthTable.is_picture" 545 546 169 2 3 242 true 243 (.ref 244) (.ref 245) (.ref 246) 549 169 550
noncomputable def o248 : Obj := ⟨(.type "function"), none, (.func (fdA (at2 44 2) "is_picture" "WidthTable.is_picture" 3 .none .none .none (.str "termcore.cellwidths" 481) none (.ref 247) .none 0)), #[]⟩
noncomputable def o249 : Obj := tpO #[(.str "joiners" 552), (.str "marks" 553), (.str "wide" 554)]
noncomputable def o250 : Obj := ⟨(.type "dict"), none, (.dict #[sE P "__module__" 520 (.str "termcore.cellwidths" 481), sE P "__firstlineno__" 524 (.int 155 523), sE P "__init__" 535 (.ref 234), sE P "width_of" 543 (.ref 241), sE P "is_picture" 551 (.ref 248), sE P "__static_attributes__" 555 (.ref 249), sE P "__dict__" 557 (.ref 252), sE P "__weakref__" 559 (.ref 253), sE P "__doc__" 560 .none] 4), #[]⟩
noncomputable def o251 : Obj := ⟨(.type "type"), none, (.cls ⟨"WidthTable", [(.type "object")], [(.ref 251), (.type "object")], 250, "WidthTable", true, [], [], false, none, false⟩), #[none, none, (some (.str "WidthTable" 513)), (some (.str "WidthTable" 521)), (some (.builtin "object.__new__")), (some (.bool true))]⟩
noncomputable def o252 : Obj := ⟨(.type "getset_descriptor"), none, (.fields #[(.str "__dict__" 556), (.ref 251), (.builtin "function.__dict__"), (.builtin "function.__dict__#set")]), #[]⟩
noncomputable def o253 : Obj := ⟨(.type "getset_descriptor"), none, (.fields #[(.str "__weakref__" 558), (.ref 251), (.builtin "ExceptionGroup.__weakref__"), .none]), #[]⟩
noncomputable def o254 : Obj := ⟨(.type "super"), none, (.fields #[(.ref 251), (.ref 251), (.ref 251)]), #[]⟩
noncomputable def o255 : Obj := ⟨(.type "builtin_function_or_method"), none, (.fields #[(.builtin "object.__init_subclass__"), (.ref 251)]), #[]⟩
noncomputable def o258 : Obj := tpO #[(.str "code" 566)]
noncomputable def o260 : Obj := ⟨.none, none, (.func (fdA (at1 45) "is_region" "is_region" 0 .none .none .none .none none .none .none 0)), #[]⟩
noncomputable def o261 : Obj := cdO "is_region" 563 "is_region" 564 565 171 1 3 256 true 257 (.ref 258) (.ref 259) (.ref 260) 567 171 568
noncomputable def o262 : Obj := ⟨(.type "function"), none, (.func (fdA (at1 45) "is_region" "is_region" 3 .none .none .none (.str "termcore.cellwidths" 481) none (.ref 261) .none 0)), #[]⟩
noncomputable def o265 : Obj := ⟨.none, none, (.func (fdA (at1 46) "cluster_width" "cluster_width" 0 .none .none .none .none none .none .none 0)), #[]⟩
noncomputable def o266 : Obj := cdO "cluster_width" 570 "cluster_width" 571 572 173 2 3 263 true 264 .none .none (.ref 265) 573 173 574
noncomputable def o267 : Obj := ⟨(.type "function"), none, (.func (fdA (at1 46) "cluster_width" "cluster_width" 3 .none .none .none (.str "termcore.cellwidths" 481) none (.ref 266) .none 0)), #[]⟩
noncomputable def o268 : Obj := tpO #[(.bytes #[66] 578), (.bytes #[65] 590), (.bytes #[48] 591), (.bytes #[37, 53] 580), (.bytes #[60] 592), (.bytes #[45, 65] 582), (.bytes #[52] 593), (.bytes #[67] 594), (.bytes #[53] 595), (.bytes #[82] 596), (.bytes #[102] 597), (.bytes #[81] 598), (.bytes #[57] 599), (.bytes #[75] 600), (.bytes #[89] 601), (.bytes #[96] 602), (.bytes #[69] 603), (.bytes #[54] 604), (.bytes #[90] 605), (.bytes #[72] 606), (.bytes #[55] 607), (.bytes #[61] 608)]
noncomputable def o271 : Obj := tpO #[(.str "signs" 613), (.str "codes" 614)]
noncomputable def o273 : Obj := ⟨.none, none, (.func (fdA (at1 55) "charset_pairs" "charset_pairs" 0 .none .none .none .none none .none .none 0)), #[]⟩
noncomputable def o274 : Obj := cdO "charset_pairs" 610 "charset_pairs" 611 612 189 2 3 269 true 270 (.ref 271) (.ref 272) (.ref 273) 615 189 616
noncomputable def o275 : Obj := ⟨(.type "function"), none, (.func (fdA (at1 55) "charset_pairs" "charset_pairs" 3 .none .none .none (.str "termcore.charsets" 576) none (.ref 274) .none 0)), #[]⟩
noncomputable def o278 : Obj := tpO #[(.str "found" 621)]
noncomputable def o280 : Obj := ⟨.none, none, (.func (fdA (at1 56) "charset_drawing" "charset_drawing" 0 .none .none .none .none none .none .none 0)), #[]⟩
noncomputable def o281 : Obj := cdO "charset_drawing" 618 "charset_drawing" 619 620 191 0 3 276 true 277 (.ref 278) (.ref 279) (.ref 280) 622 191 623
noncomputable def o282 : Obj := ⟨(.type "function"), none, (.func (fdA (at1 56) "charset_drawing" "charset_drawing" 3 .none .none .none (.str "termcore.charsets" 576) none (.ref 281) .none 0)), #[]⟩
noncomputable def o285 : Obj := tpO #[(.str "is_dec" 628), (.str "found" 629), (.str "code" 630)]
noncomputable def o287 : Obj := ⟨.none, none, (.func (fdA (at1 57) "charset_supplement" "charset_supplement" 0 .none .none .none .none none .none .none 0)), #[]⟩
noncomputable def o288 : Obj := cdO "charset_supplement" 625 "charset_supplement" 626 627 200 1 3 283 true 284 (.ref 285) (.ref 286) (.ref 287) 631 200 632
noncomputable def o289 : Obj := ⟨(.type "function"), none, (.func (fdA (at1 57) "charset_supplement" "charset_supplement" 3 .none .none .none (.str "termcore.charsets" 576) none (.ref 288) .none 0)), #[]⟩
noncomputable def o292 : Obj := tpO #[(.str "name" 637)]
noncomputable def o294 : Obj := ⟨.none, none, (.func (fdA (at1 58) "charset_national" "charset_national" 0 .none .none .none .none none .none .none 0)), #[]⟩
noncomputable def o295 : Obj := cdO "charset_national" 634 "charset_national" 635 636 209 1 3 290 true 291 (.ref 292) (.ref 293) (.ref 294) 638 209 639
noncomputable def o296 : Obj := ⟨(.type "function"), none, (.func (fdA (at1 58) "charset_national" "charset_national" 3 .none .none .none (.str "termcore.charsets" 576) none (.ref 295) .none 0)), #[]⟩
noncomputable def o299 : Obj := tpO #[(.str "name" 644)]
noncomputable def o301 : Obj := ⟨.none, none, (.func (fdA (at1 59) "charset_table" "charset_table" 0 .none .none .none .none none .none .none 0)), #[]⟩
noncomputable def o302 : Obj := cdO "charset_table" 641 "charset_table" 642 643 229 1 3 297 true 298 (.ref 299) (.ref 300) (.ref 301) 645 229 646
noncomputable def o303 : Obj := ⟨(.type "function"), none, (.func (fdA (at1 59) "charset_table" "charset_table" 3 .none .none .none (.str "termcore.charsets" 576) none (.ref 302) .none 0)), #[]⟩
noncomputable def o306 : Obj := ⟨(.type "dict"), none, (.dict #[sE P "__module__" 655 (.str "termcore.charsets" 576), sE P "__qualname__" 657 (.str "Charsets" 656), sE P "__firstlineno__" 659 (.int 239 658), sE P "__init__" 667 (.ref 318), sE P "table" 675 (.ref 325), sE P "reset" 682 (.ref 332), sE P "copy" 689 (.ref 339), sE P "designate" 698 (.ref 346), sE P "shift_in" 705 (.ref 353), sE P "shift_out" 712 (.ref 360), sE P "lock" 721 (.ref 367), sE P "single" 729 (.ref 374), sE P "mapped" 738 (.ref 382), sE P "is_plain" 745 (.ref 389), sE P "__static_attributes__" 751 (.ref 390)] 15), #[]⟩
noncomputable def o308 : Obj := ⟨.none, none, (.fields #[(.int 241 0), (.int 4 0), (.ref 317), (.int 245 0), (.int 4 0), (.ref 324), (.int 250 0), (.int 4 0), (.ref 331), (.int 256 0), (.int 4 0), (.ref 338), (.int 259 0), (.int 4 0), (.ref 345), (.int 265 0), (.int 4 0), (.ref 352), (.int 268 0), (.int 4 0), (.ref 359), (.int 271 0), (.int 4 0), (.ref 366), (.int 277 0), (.int 4 0), (.ref 373), (.int 280 0), (.int 4 0), (.ref 381), (.int 283 0), (.int 4 0), (.ref 388)]), #[]⟩
noncomputable def o309 : Obj := cdO "Charsets" 650 "Charsets" 651 652 239 0 0 307 false 308 .none .none .none 653 239 654
noncomputable def o310 : Obj := ⟨(.type "frame"), none, .plain, #[(some (.ref 309)), (some (.ref 3)), (some (.ref 306)), none, (some (.str "termcore.charsets" 576)), none, (some (.ref 0))]⟩
noncomputable def o314 : Obj := tpO #[(.str "self" 663), (.str "made" 664)]
noncomputable def o316 : Obj := ⟨.none, none, (.func (fdA (at2 60 0) "__init__" "Charsets.__init__" 0 .none .none .none .none none .none .none 0)), #[]⟩
noncomputable def o317 : Obj := cdO "__init__" 660 "Charsets.__init__" 661 662 241 2 3 312 true 313 (.ref 314) (.ref 315) (.ref 316) 665 241 666
noncomputable def o318 : Obj := ⟨(.type "function"), none, (.func (fdA (at2 60 0) "__init__" "Charsets.__init__" 3 (.ref 311) .none .none (.str "termcore.charsets" 576) none (.ref 317) .none 0)), #[]⟩
noncomputable def o321 : Obj := tpO #[(.str "self" 671), (.str "name" 672)]
noncomputable def o323 : Obj := ⟨.none, none, (.func (fdA (at2 60 1) "table" "Charsets.table" 0 .none .none .none .none none .none .none 0)), #[]⟩
noncomputable def o324 : Obj := cdO "table" 668 "Charsets.table" 669 670 245 2 3 319 true 320 (.ref 321) (.ref 322) (.ref 323) 673 245 674
noncomputable def o325 : Obj := ⟨(.type "function"), none, (.func (fdA (at2 60 1) "table" "Charsets.table" 3 .none .none .none (.str "termcore.charsets" 576) none (.ref 324) .none 0)), #[]⟩
noncomputable def o328 : Obj := tpO #[(.str "self" 679)]
noncomputable def o330 : Obj := ⟨.none, none, (.func (fdA (at2 60 2) "reset" "Charsets.reset" 0 .none .none .none .none none .none .none 0)), #[]⟩
noncomputable def o331 : Obj := cdO "reset" 676 "Charsets.reset" 677 678 250 1 3 326 true 327 (.ref 328) (.ref 329) (.ref 330) 680 250 681
noncomputable def o332 : Obj := ⟨(.type "function"), none, (.func (fdA (at2 60 2) "reset" "Charsets.reset" 3 .none .none .none (.str "termcore.charsets" 576) none (.ref 331) .none 0)), #[]⟩
noncomputable def o335 : Obj := tpO #[(.str "self" 686)]
noncomputable def o337 : Obj := ⟨.none, none, (.func (fdA (at2 60 3) "copy" "Charsets.copy" 0 .none .none .none .none none .none .none 0)), #[]⟩
noncomputable def o338 : Obj := cdO "copy" 683 "Charsets.copy" 684 685 256 1 3 333 true 334 (.ref 335) (.ref 336) (.ref 337) 687 256 688
noncomputable def o339 : Obj := ⟨(.type "function"), none, (.func (fdA (at2 60 3) "copy" "Charsets.copy" 3 .none .none .none (.str "termcore.charsets" 576) none (.ref 338) .none 0)), #[]⟩
noncomputable def o342 : Obj := tpO #[(.str "self" 693), (.str "place" 694), (.str "word" 695)]
noncomputable def o344 : Obj := ⟨.none, none, (.func (fdA (at2 60 4) "designate" "Charsets.designate" 0 .none .none .none .none none .none .none 0)), #[]⟩
noncomputable def o345 : Obj := cdO "designate" 690 "Charsets.designate" 691 692 259 3 3 340 true 341 (.ref 342) (.ref 343) (.ref 344) 696 259 697
noncomputable def o346 : Obj := ⟨(.type "function"), none, (.func (fdA (at2 60 4) "designate" "Charsets.designate" 3 .none .none .none (.str "termcore.charsets" 576) none (.ref 345) .none 0)), #[]⟩
noncomputable def o349 : Obj := tpO #[(.str "self" 702)]
noncomputable def o351 : Obj := ⟨.none, none, (.func (fdA (at2 60 5) "shift_in" "Charsets.shift_in" 0 .none .none .none .none none .none .none 0)), #[]⟩
noncomputable def o352 : Obj := cdO "shift_in" 699 "Charsets.shift_in" 700 701 265 1 3 347 true 348 (.ref 349) (.ref 350) (.ref 351) 703 265 704
noncomputable def o353 : Obj := ⟨(.type "function"), none, (.func (fdA (at2 60 5) "shift_in" "Charsets.shift_in" 3 .none .none .none (.str "termcore.charsets" 576) none (.ref 352) .none 0)), #[]⟩
noncomputable def o356 : Obj := tpO #[(.str "self" 709)]
noncomputable def o358 : Obj := ⟨.none, none, (.func (fdA (at2 60 6) "shift_out" "Charsets.shift_out" 0 .none .none .none .none none .none .none 0)), #[]⟩
noncomputable def o359 : Obj := cdO "shift_out" 706 "Charsets.shift_out" 707 708 268 1 3 354 true 355 (.ref 356) (.ref 357) (.ref 358) 710 268 711
noncomputable def o360 : Obj := ⟨(.type "function"), none, (.func (fdA (at2 60 6) "shift_out" "Charsets.shift_out" 3 .none .none .none (.str "termcore.charsets" 576) none (.ref 359) .none 0)), #[]⟩
noncomputable def o363 : Obj := tpO #[(.str "self" 716), (.str "place" 717), (.str "is_right" 718)]
noncomputable def o365 : Obj := ⟨.none, none, (.func (fdA (at2 60 7) "lock" "Charsets.lock" 0 .none .none .none .none none .none .none 0)), #[]⟩
noncomputable def o366 : Obj := cdO "lock" 713 "Charsets.lock" 714 715 271 3 3 361 true 362 (.ref 363) (.ref 364) (.ref 365) 719 271 720
noncomputable def o367 : Obj := ⟨(.type "function"), none, (.func (fdA (at2 60 7) "lock" "Charsets.lock" 3 .none .none .none (.str "termcore.charsets" 576) none (.ref 366) .none 0)), #[]⟩
noncomputable def o370 : Obj := tpO #[(.str "self" 725), (.str "place" 726)]
noncomputable def o372 : Obj := ⟨.none, none, (.func (fdA (at2 60 8) "single" "Charsets.single" 0 .none .none .none .none none .none .none 0)), #[]⟩
noncomputable def o373 : Obj := cdO "single" 722 "Charsets.single" 723 724 277 2 3 368 true 369 (.ref 370) (.ref 371) (.ref 372) 727 277 728
noncomputable def o374 : Obj := ⟨(.type "function"), none, (.func (fdA (at2 60 8) "single" "Charsets.single" 3 .none .none .none (.str "termcore.charsets" 576) none (.ref 373) .none 0)), #[]⟩
noncomputable def o375 : Obj := tpO #[(.bool false)]
noncomputable def o378 : Obj := tpO #[(.str "self" 733), (.str "code" 734), (.str "has_right" 735)]
noncomputable def o380 : Obj := ⟨.none, none, (.func (fdA (at2 60 9) "mapped" "Charsets.mapped" 0 .none .none .none .none none .none .none 0)), #[]⟩
noncomputable def o381 : Obj := cdO "mapped" 730 "Charsets.mapped" 731 732 280 3 3 376 true 377 (.ref 378) (.ref 379) (.ref 380) 736 280 737
noncomputable def o382 : Obj := ⟨(.type "function"), none, (.func (fdA (at2 60 9) "mapped" "Charsets.mapped" 3 (.ref 375) .none .none (.str "termcore.charsets" 576) none (.ref 381) .none 0)), #[]⟩
noncomputable def o385 : Obj := tpO #[(.str "self" 742)]
noncomputable def o387 : Obj := ⟨.none, none, (.func (fdA (at2 60 10) "is_plain" "Charsets.is_plain" 0 .none .none .none .none none .none .none 0)), #[]⟩
noncomputable def o388 : Obj := cdO "is_plain" 739 "Charsets.is_plain" 740 741 283 1 3 383 true 384 (.ref 385) (.ref 386) (.ref 387) 743 283 744
noncomputable def o389 : Obj := ⟨(.type "function"), none, (.func (fdA (at2 60 10) "is_plain" "Charsets.is_plain" 3 .none .none .none (.str "termcore.charsets" 576) none (.ref 388) .none 0)), #[]⟩
noncomputable def o390 : Obj := tpO #[(.str "left" 746), (.str "made" 747), (.str "names" 748), (.str "right" 749), (.str "shift" 750)]
noncomputable def o391 : Obj := ⟨(.type "dict"), none, (.dict #[sE P "__module__" 655 (.str "termcore.charsets" 576), sE P "__firstlineno__" 659 (.int 239 658), sE P "__init__" 667 (.ref 318), sE P "table" 675 (.ref 325), sE P "reset" 682 (.ref 332), sE P "copy" 689 (.ref 339), sE P "designate" 698 (.ref 346), sE P "shift_in" 705 (.ref 353), sE P "shift_out" 712 (.ref 360), sE P "lock" 721 (.ref 367), sE P "single" 729 (.ref 374), sE P "mapped" 738 (.ref 382), sE P "is_plain" 745 (.ref 389), sE P "__static_attributes__" 751 (.ref 390), sE P "__dict__" 753 (.ref 393), sE P "__weakref__" 755 (.ref 394), sE P "__doc__" 756 .none] 4), #[]⟩
noncomputable def o392 : Obj := ⟨(.type "type"), none, (.cls ⟨"Charsets", [(.type "object")], [(.ref 392), (.type "object")], 391, "Charsets", true, [], [], false, none, false⟩), #[none, none, (some (.str "Charsets" 648)), (some (.str "Charsets" 656)), (some (.builtin "object.__new__")), (some (.bool true))]⟩
noncomputable def o393 : Obj := ⟨(.type "getset_descriptor"), none, (.fields #[(.str "__dict__" 752), (.ref 392), (.builtin "function.__dict__"), (.builtin "function.__dict__#set")]), #[]⟩
noncomputable def o394 : Obj := ⟨(.type "getset_descriptor"), none, (.fields #[(.str "__weakref__" 754), (.ref 392), (.builtin "ExceptionGroup.__weakref__"), .none]), #[]⟩
noncomputable def o395 : Obj := ⟨(.type "super"), none, (.fields #[(.ref 392), (.ref 392), (.ref 392)]), #[]⟩
noncomputable def o396 : Obj := ⟨(.type "builtin_function_or_method"), none, (.fields #[(.builtin "object.__init_subclass__"), (.ref 392)]), #[]⟩
noncomputable def o399 : Obj := ⟨(.type "dict"), none, (.dict #[sE P "__module__" 770 (.str "termcore.cursor" 759), sE P "__qualname__" 772 (.str "Cursor" 771), sE P "__firstlineno__" 774 (.int 287 773), sE P "__init__" 781 (.ref 410), sE P "copy" 788 (.ref 417), sE P "go" 797 (.ref 424), sE P "place" 804 (.ref 431), sE P "equals" 812 (.ref 438), sE P "__static_attributes__" 819 (.ref 439)] 9), #[]⟩
noncomputable def o401 : Obj := ⟨.none, none, (.fields #[(.int 289 0), (.int 4 0), (.ref 409), (.int 297 0), (.int 4 0), (.ref 416), (.int 300 0), (.int 4 0), (.ref 423), (.int 305 0), (.int 4 0), (.ref 430), (.int 308 0), (.int 4 0), (.ref 437)]), #[]⟩
noncomputable def o402 : Obj := cdO "Cursor" 765 "Cursor" 766 767 287 0 0 400 false 401 .none .none .none 768 287 769
noncomputable def o403 : Obj := ⟨(.type "frame"), none, .plain, #[(some (.ref 402)), (some (.ref 3)), (some (.ref 399)), none, (some (.str "termcore.cursor" 759)), none, (some (.ref 0))]⟩
noncomputable def o406 : Obj := tpO #[(.str "self" 778)]
noncomputable def o408 : Obj := ⟨.none, none, (.func (fdA (at2 63 0) "__init__" "Cursor.__init__" 0 .none .none .none .none none .none .none 0)), #[]⟩
noncomputable def o409 : Obj := cdO "__init__" 775 "Cursor.__init__" 776 777 289 1 3 404 true 405 (.ref 406) (.ref 407) (.ref 408) 779 289 780
noncomputable def o410 : Obj := ⟨(.type "function"), none, (.func (fdA (at2 63 0) "__init__" "Cursor.__init__" 3 .none .none .none (.str "termcore.cursor" 759) none (.ref 409) .none 0)), #[]⟩
noncomputable def o413 : Obj := tpO #[(.str "self" 785)]
noncomputable def o415 : Obj := ⟨.none, none, (.func (fdA (at2 63 1) "copy" "Cursor.copy" 0 .none .none .none .none none .none .none 0)), #[]⟩
noncomputable def o416 : Obj := cdO "copy" 782 "Cursor.copy" 783 784 297 1 3 411 true 412 (.ref 413) (.ref 414) (.ref 415) 786 297 787
noncomputable def o417 : Obj := ⟨(.type "function"), none, (.func (fdA (at2 63 1) "copy" "Cursor.copy" 3 .none .none .none (.str "termcore.cursor" 759) none (.ref 416) .none 0)), #[]⟩
noncomputable def o420 : Obj := tpO #[(.str "self" 792), (.str "row" 793), (.str "column" 794)]
noncomputable def o422 : Obj := ⟨.none, none, (.func (fdA (at2 63 2) "go" "Cursor.go" 0 .none .none .none .none none .none .none 0)), #[]⟩
noncomputable def o423 : Obj := cdO "go" 789 "Cursor.go" 790 791 300 3 3 418 true 419 (.ref 420) (.ref 421) (.ref 422) 795 300 796
noncomputable def o424 : Obj := ⟨(.type "function"), none, (.func (fdA (at2 63 2) "go" "Cursor.go" 3 .none .none .none (.str "termcore.cursor" 759) none (.ref 423) .none 0)), #[]⟩
noncomputable def o427 : Obj := tpO #[(.str "self" 801)]
noncomputable def o429 : Obj := ⟨.none, none, (.func (fdA (at2 63 3) "place" "Cursor.place" 0 .none .none .none .none none .none .none 0)), #[]⟩
noncomputable def o430 : Obj := cdO "place" 798 "Cursor.place" 799 800 305 1 3 425 true 426 (.ref 427) (.ref 428) (.ref 429) 802 305 803
noncomputable def o431 : Obj := ⟨(.type "function"), none, (.func (fdA (at2 63 3) "place" "Cursor.place" 3 .none .none .none (.str "termcore.cursor" 759) none (.ref 430) .none 0)), #[]⟩
noncomputable def o434 : Obj := tpO #[(.str "self" 808), (.str "other" 809)]
noncomputable def o436 : Obj := ⟨.none, none, (.func (fdA (at2 63 4) "equals" "Cursor.equals" 0 .none .none .none .none none .none .none 0)), #[]⟩
noncomputable def o437 : Obj := cdO "equals" 805 "Cursor.equals" 806 807 308 2 3 432 true 433 (.ref 434) (.ref 435) (.ref 436) 810 308 811
noncomputable def o438 : Obj := ⟨(.type "function"), none, (.func (fdA (at2 63 4) "equals" "Cursor.equals" 3 .none .none .none (.str "termcore.cursor" 759) none (.ref 437) .none 0)), #[]⟩
noncomputable def o439 : Obj := tpO #[(.str "column" 813), (.str "is_guarding" 814), (.str "is_origin" 815), (.str "is_waiting" 816), (.str "pen" 817), (.str "row" 818)]
noncomputable def o440 : Obj := ⟨(.type "dict"), none, (.dict #[sE P "__module__" 770 (.str "termcore.cursor" 759), sE P "__firstlineno__" 774 (.int 287 773), sE P "__init__" 781 (.ref 410), sE P "copy" 788 (.ref 417), sE P "go" 797 (.ref 424), sE P "place" 804 (.ref 431), sE P "equals" 812 (.ref 438), sE P "__static_attributes__" 819 (.ref 439), sE P "__dict__" 821 (.ref 442), sE P "__weakref__" 823 (.ref 443), sE P "__doc__" 824 .none] 4), #[]⟩
noncomputable def o441 : Obj := ⟨(.type "type"), none, (.cls ⟨"Cursor", [(.type "object")], [(.ref 441), (.type "object")], 440, "Cursor", true, [], [], false, none, false⟩), #[none, none, (some (.str "Cursor" 763)), (some (.str "Cursor" 771)), (some (.builtin "object.__new__")), (some (.bool true))]⟩
noncomputable def o442 : Obj := ⟨(.type "getset_descriptor"), none, (.fields #[(.str "__dict__" 820), (.ref 441), (.builtin "function.__dict__"), (.builtin "function.__dict__#set")]), #[]⟩
noncomputable def o443 : Obj := ⟨(.type "getset_descriptor"), none, (.fields #[(.str "__weakref__" 822), (.ref 441), (.builtin "ExceptionGroup.__weakref__"), .none]), #[]⟩
noncomputable def o444 : Obj := ⟨(.type "super"), none, (.fields #[(.ref 441), (.ref 441), (.ref 441)]), #[]⟩
noncomputable def o445 : Obj := ⟨(.type "builtin_function_or_method"), none, (.fields #[(.builtin "object.__init_subclass__"), (.ref 441)]), #[]⟩
noncomputable def o448 : Obj := ⟨(.type "dict"), none, (.dict #[sE P "__module__" 834 (.str "termcore.cursor" 759), sE P "__qualname__" 836 (.str "Margins" 835), sE P "__firstlineno__" 838 (.int 310 837), sE P "__init__" 847 (.ref 459), sE P "set_rows" 856 (.ref 466), sE P "set_columns" 865 (.ref 473), sE P "clear_rows" 872 (.ref 480), sE P "clear_columns" 879 (.ref 487), sE P "resize" 888 (.ref 494), sE P "area" 895 (.ref 501), sE P "holds" 904 (.ref 508), sE P "holds_row" 912 (.ref 515), sE P "holds_column" 920 (.ref 522), sE P "is_whole_width" 927 (.ref 529), sE P "is_whole" 934 (.ref 536), sE P "first_row" 942 (.ref 543), sE P "last_row" 950 (.ref 550), sE P "first_column" 958 (.ref 557), sE P "last_column" 966 (.ref 564), sE P "copy" 973 (.ref 571), sE P "__static_attributes__" 980 (.ref 572)] 21), #[]⟩
noncomputable def o450 : Obj := ⟨.none, none, (.fields #[(.int 312 0), (.int 4 0), (.ref 458), (.int 320 0), (.int 4 0), (.ref 465), (.int 323 0), (.int 4 0), (.ref 472), (.int 326 0), (.int 4 0), (.ref 479), (.int 329 0), (.int 4 0), (.ref 486), (.int 332 0), (.int 4 0), (.ref 493), (.int 335 0), (.int 4 0), (.ref 500), (.int 338 0), (.int 4 0), (.ref 507), (.int 341 0), (.int 4 0), (.ref 514), (.int 344 0), (.int 4 0), (.ref 521), (.int 347 0), (.int 4 0), (.ref 528), (.int 350 0), (.int 4 0), (.ref 535), (.int 353 0), (.int 4 0), (.ref 542), (.int 356 0), (.int 4 0), (.ref 549), (.int 359 0), (.int 4 0), (.ref 556), (.int 362 0), (.int 4 0), (.ref 563), (.int 365 0), (.int 4 0), (.ref 570)]), #[]⟩
noncomputable def o451 : Obj := cdO "Margins" 829 "Margins" 830 831 310 0 0 449 false 450 .none .none .none 832 310 833
noncomputable def o452 : Obj := ⟨(.type "frame"), none, .plain, #[(some (.ref 451)), (some (.ref 3)), (some (.ref 448)), none, (some (.str "termcore.cursor" 759)), none, (some (.ref 0))]⟩
noncomputable def o455 : Obj := tpO #[(.str "self" 842), (.str "rows" 843), (.str "columns" 844)]
noncomputable def o457 : Obj := ⟨.none, none, (.func (fdA (at2 64 0) "__init__" "Margins.__init__" 0 .none .none .none .none none .none .none 0)), #[]⟩
noncomputable def o458 : Obj := cdO "__init__" 839 "Margins.__init__" 840 841 312 3 3 453 true 454 (.ref 455) (.ref 456) (.ref 457) 845 312 846
noncomputable def o459 : Obj := ⟨(.type "function"), none, (.func (fdA (at2 64 0) "__init__" "Margins.__init__" 3 .none .none .none (.str "termcore.cursor" 759) none (.ref 458) .none 0)), #[]⟩
noncomputable def o462 : Obj := tpO #[(.str "self" 851), (.str "top" 852), (.str "bottom" 853)]
noncomputable def o464 : Obj := ⟨.none, none, (.func (fdA (at2 64 1) "set_rows" "Margins.set_rows" 0 .none .none .none .none none .none .none 0)), #[]⟩
noncomputable def o465 : Obj := cdO "set_rows" 848 "Margins.set_rows" 849 850 320 3 3 460 true 461 (.ref 462) (.ref 463) (.ref 464) 854 320 855
noncomputable def o466 : Obj := ⟨(.type "function"), none, (.func (fdA (at2 64 1) "set_rows" "Margins.set_rows" 3 .none .none .none (.str "termcore.cursor" 759) none (.ref 465) .none 0)), #[]⟩
noncomputable def o469 : Obj := tpO #[(.str "self" 860), (.str "left" 861), (.str "right" 862)]
noncomputable def o471 : Obj := ⟨.none, none, (.func (fdA (at2 64 2) "set_columns" "Margins.set_columns" 0 .none .none .none .none none .none .none 0)), #[]⟩
noncomputable def o472 : Obj := cdO "set_columns" 857 "Margins.set_columns" 858 859 323 3 3 467 true 468 (.ref 469) (.ref 470) (.ref 471) 863 323 864
noncomputable def o473 : Obj := ⟨(.type "function"), none, (.func (fdA (at2 64 2) "set_columns" "Margins.set_columns" 3 .none .none .none (.str "termcore.cursor" 759) none (.ref 472) .none 0)), #[]⟩
noncomputable def o476 : Obj := tpO #[(.str "self" 869)]
noncomputable def o478 : Obj := ⟨.none, none, (.func (fdA (at2 64 3) "clear_rows" "Margins.clear_rows" 0 .none .none .none .none none .none .none 0)), #[]⟩
noncomputable def o479 : Obj := cdO "clear_rows" 866 "Margins.clear_rows" 867 868 326 1 3 474 true 475 (.ref 476) (.ref 477) (.ref 478) 870 326 871
noncomputable def o480 : Obj := ⟨(.type "function"), none, (.func (fdA (at2 64 3) "clear_rows" "Margins.clear_rows" 3 .none .none .none (.str "termcore.cursor" 759) none (.ref 479) .none 0)), #[]⟩
noncomputable def o483 : Obj := tpO #[(.str "self" 876)]
noncomputable def o485 : Obj := ⟨.none, none, (.func (fdA (at2 64 4) "clear_columns" "Margins.clear_columns" 0 .none .none .none .none none .none .none 0)), #[]⟩
noncomputable def o486 : Obj := cdO "clear_columns" 873 "Margins.clear_columns" 874 875 329 1 3 481 true 482 (.ref 483) (.ref 484) (.ref 485) 877 329 878
noncomputable def o487 : Obj := ⟨(.type "function"), none, (.func (fdA (at2 64 4) "clear_columns" "Margins.clear_columns" 3 .none .none .none (.str "termcore.cursor" 759) none (.ref 486) .none 0)), #[]⟩
noncomputable def o490 : Obj := tpO #[(.str "self" 883), (.str "rows" 884), (.str "columns" 885)]
noncomputable def o492 : Obj := ⟨.none, none, (.func (fdA (at2 64 5) "resize" "Margins.resize" 0 .none .none .none .none none .none .none 0)), #[]⟩
noncomputable def o493 : Obj := cdO "resize" 880 "Margins.resize" 881 882 332 3 3 488 true 489 (.ref 490) (.ref 491) (.ref 492) 886 332 887
noncomputable def o494 : Obj := ⟨(.type "function"), none, (.func (fdA (at2 64 5) "resize" "Margins.resize" 3 .none .none .none (.str "termcore.cursor" 759) none (.ref 493) .none 0)), #[]⟩
noncomputable def o497 : Obj := tpO #[(.str "self" 892)]
noncomputable def o499 : Obj := ⟨.none, none, (.func (fdA (at2 64 6) "area" "Margins.area" 0 .none .none .none .none none .none .none 0)), #[]⟩
noncomputable def o500 : Obj := cdO "area" 889 "Margins.area" 890 891 335 1 3 495 true 496 (.ref 497) (.ref 498) (.ref 499) 893 335 894
noncomputable def o501 : Obj := ⟨(.type "function"), none, (.func (fdA (at2 64 6) "area" "Margins.area" 3 .none .none .none (.str "termcore.cursor" 759) none (.ref 500) .none 0)), #[]⟩
noncomputable def o504 : Obj := tpO #[(.str "self" 899), (.str "row" 900), (.str "column" 901)]
noncomputable def o506 : Obj := ⟨.none, none, (.func (fdA (at2 64 7) "holds" "Margins.holds" 0 .none .none .none .none none .none .none 0)), #[]⟩
noncomputable def o507 : Obj := cdO "holds" 896 "Margins.holds" 897 898 338 3 3 502 true 503 (.ref 504) (.ref 505) (.ref 506) 902 338 903
noncomputable def o508 : Obj := ⟨(.type "function"), none, (.func (fdA (at2 64 7) "holds" "Margins.holds" 3 .none .none .none (.str "termcore.cursor" 759) none (.ref 507) .none 0)), #[]⟩
noncomputable def o511 : Obj := tpO #[(.str "self" 908), (.str "row" 909)]
noncomputable def o513 : Obj := ⟨.none, none, (.func (fdA (at2 64 8) "holds_row" "Margins.holds_row" 0 .none .none .none .none none .none .none 0)), #[]⟩
noncomputable def o514 : Obj := cdO "holds_row" 905 "Margins.holds_row" 906 907 341 2 3 509 true 510 (.ref 511) (.ref 512) (.ref 513) 910 341 911
noncomputable def o515 : Obj := ⟨(.type "function"), none, (.func (fdA (at2 64 8) "holds_row" "Margins.holds_row" 3 .none .none .none (.str "termcore.cursor" 759) none (.ref 514) .none 0)), #[]⟩
noncomputable def o518 : Obj := tpO #[(.str "self" 916), (.str "column" 917)]
noncomputable def o520 : Obj := ⟨.none, none, (.func (fdA (at2 64 9) "holds_column" "Margins.holds_column" 0 .none .none .none .none none .none .none 0)), #[]⟩
noncomputable def o521 : Obj := cdO "holds_column" 913 "Margins.holds_column" 914 915 344 2 3 516 true 517 (.ref 518) (.ref 519) (.ref 520) 918 344 919
noncomputable def o522 : Obj := ⟨(.type "function"), none, (.func (fdA (at2 64 9) "holds_column" "Margins.holds_column" 3 .none .none .none (.str "termcore.cursor" 759) none (.ref 521) .none 0)), #[]⟩
noncomputable def o525 : Obj := tpO #[(.str "self" 924)]
noncomputable def o527 : Obj := ⟨.none, none, (.func (fdA (at2 64 10) "is_whole_width" "Margins.is_whole_width" 0 .none .none .none .none none .none .none 0)), #[]⟩
noncomputable def o528 : Obj := cdO "is_whole_width" 921 "Margins.is_whole_width" 922 923 347 1 3 523 true 524 (.ref 525) (.ref 526) (.ref 527) 925 347 926
noncomputable def o529 : Obj := ⟨(.type "function"), none, (.func (fdA (at2 64 10) "is_whole_width" "Margins.is_whole_width" 3 .none .none .none (.str "termcore.cursor" 759) none (.ref 528) .none 0)), #[]⟩
noncomputable def o532 : Obj := tpO #[(.str "self" 931)]
noncomputable def o534 : Obj := ⟨.none, none, (.func (fdA (at2 64 11) "is_whole" "Margins.is_whole" 0 .none .none .none .none none .none .none 0)), #[]⟩
noncomputable def o535 : Obj := cdO "is_whole" 928 "Margins.is_whole" 929 930 350 1 3 530 true 531 (.ref 532) (.ref 533) (.ref 534) 932 350 933
noncomputable def o536 : Obj := ⟨(.type "function"), none, (.func (fdA (at2 64 11) "is_whole" "Margins.is_whole" 3 .none .none .none (.str "termcore.cursor" 759) none (.ref 535) .none 0)), #[]⟩
noncomputable def o539 : Obj := tpO #[(.str "self" 938), (.str "row" 939)]
noncomputable def o541 : Obj := ⟨.none, none, (.func (fdA (at2 64 12) "first_row" "Margins.first_row" 0 .none .none .none .none none .none .none 0)), #[]⟩
noncomputable def o542 : Obj := cdO "first_row" 935 "Margins.first_row" 936 937 353 2 3 537 true 538 (.ref 539) (.ref 540) (.ref 541) 940 353 941
noncomputable def o543 : Obj := ⟨(.type "function"), none, (.func (fdA (at2 64 12) "first_row" "Margins.first_row" 3 .none .none .none (.str "termcore.cursor" 759) none (.ref 542) .none 0)), #[]⟩
noncomputable def o546 : Obj := tpO #[(.str "self" 946), (.str "row" 947)]
noncomputable def o548 : Obj := ⟨.none, none, (.func (fdA (at2 64 13) "last_row" "Margins.last_row" 0 .none .none .none .none none .none .none 0)), #[]⟩
noncomputable def o549 : Obj := cdO "last_row" 943 "Margins.last_row" 944 945 356 2 3 544 true 545 (.ref 546) (.ref 547) (.ref 548) 948 356 949
noncomputable def o550 : Obj := ⟨(.type "function"), none, (.func (fdA (at2 64 13) "last_row" "Margins.last_row" 3 .none .none .none (.str "termcore.cursor" 759) none (.ref 549) .none 0)), #[]⟩
noncomputable def o553 : Obj := tpO #[(.str "self" 954), (.str "column" 955)]
noncomputable def o555 : Obj := ⟨.none, none, (.func (fdA (at2 64 14) "first_column" "Margins.first_column" 0 .none .none .none .none none .none .none 0)), #[]⟩
noncomputable def o556 : Obj := cdO "first_column" 951 "Margins.first_column" 952 953 359 2 3 551 true 552 (.ref 553) (.ref 554) (.ref 555) 956 359 957
noncomputable def o557 : Obj := ⟨(.type "function"), none, (.func (fdA (at2 64 14) "first_column" "Margins.first_column" 3 .none .none .none (.str "termcore.cursor" 759) none (.ref 556) .none 0)), #[]⟩
noncomputable def o560 : Obj := tpO #[(.str "self" 962), (.str "column" 963)]
noncomputable def o562 : Obj := ⟨.none, none, (.func (fdA (at2 64 15) "last_column" "Margins.last_column" 0 .none .none .none .none none .none .none 0)), #[]⟩
noncomputable def o563 : Obj := cdO "last_column" 959 "Margins.last_column" 960 961 362 2 3 558 true 559 (.ref 560) (.ref 561) (.ref 562) 964 362 965
noncomputable def o564 : Obj := ⟨(.type "function"), none, (.func (fdA (at2 64 15) "last_column" "Margins.last_column" 3 .none .none .none (.str "termcore.cursor" 759) none (.ref 563) .none 0)), #[]⟩
noncomputable def o567 : Obj := tpO #[(.str "self" 970)]
noncomputable def o569 : Obj := ⟨.none, none, (.func (fdA (at2 64 16) "copy" "Margins.copy" 0 .none .none .none .none none .none .none 0)), #[]⟩
noncomputable def o570 : Obj := cdO "copy" 967 "Margins.copy" 968 969 365 1 3 565 true 566 (.ref 567) (.ref 568) (.ref 569) 971 365 972
noncomputable def o571 : Obj := ⟨(.type "function"), none, (.func (fdA (at2 64 16) "copy" "Margins.copy" 3 .none .none .none (.str "termcore.cursor" 759) none (.ref 570) .none 0)), #[]⟩
noncomputable def o572 : Obj := tpO #[(.str "bottom" 974), (.str "columns" 975), (.str "left" 976), (.str "right" 977), (.str "rows" 978), (.str "top" 979)]
noncomputable def o573 : Obj := ⟨(.type "dict"), none, (.dict #[sE P "__module__" 834 (.str "termcore.cursor" 759), sE P "__firstlineno__" 838 (.int 310 837), sE P "__init__" 847 (.ref 459), sE P "set_rows" 856 (.ref 466), sE P "set_columns" 865 (.ref 473), sE P "clear_rows" 872 (.ref 480), sE P "clear_columns" 879 (.ref 487), sE P "resize" 888 (.ref 494), sE P "area" 895 (.ref 501), sE P "holds" 904 (.ref 508), sE P "holds_row" 912 (.ref 515), sE P "holds_column" 920 (.ref 522), sE P "is_whole_width" 927 (.ref 529), sE P "is_whole" 934 (.ref 536), sE P "first_row" 942 (.ref 543), sE P "last_row" 950 (.ref 550), sE P "first_column" 958 (.ref 557), sE P "last_column" 966 (.ref 564), sE P "copy" 973 (.ref 571), sE P "__static_attributes__" 980 (.ref 572), sE P "__dict__" 982 (.ref 575), sE P "__weakref__" 984 (.ref 576), sE P "__doc__" 985 .none] 4), #[]⟩
noncomputable def o574 : Obj := ⟨(.type "type"), none, (.cls ⟨"Margins", [(.type "object")], [(.ref 574), (.type "object")], 573, "Margins", true, [], [], false, none, false⟩), #[none, none, (some (.str "Margins" 827)), (some (.str "Margins" 835)), (some (.builtin "object.__new__")), (some (.bool true))]⟩
noncomputable def o575 : Obj := ⟨(.type "getset_descriptor"), none, (.fields #[(.str "__dict__" 981), (.ref 574), (.builtin "function.__dict__"), (.builtin "function.__dict__#set")]), #[]⟩
noncomputable def o576 : Obj := ⟨(.type "getset_descriptor"), none, (.fields #[(.str "__weakref__" 983), (.ref 574), (.builtin "ExceptionGroup.__weakref__"), .none]), #[]⟩
noncomputable def o577 : Obj := ⟨(.type "super"), none, (.fields #[(.ref 574), (.ref 574), (.ref 574)]), #[]⟩
noncomputable def o578 : Obj := ⟨(.type "builtin_function_or_method"), none, (.fields #[(.builtin "object.__init_subclass__"), (.ref 574)]), #[]⟩
noncomputable def o581 : Obj := ⟨(.type "dict"), none, (.dict #[sE P "__module__" 995 (.str "termcore.cursor" 759), sE P "__qualname__" 997 (.str "Tabs" 996), sE P "__firstlineno__" 999 (.int 367 998), sE P "__init__" 1007 (.ref 592), sE P "put_eighths" 1016 (.ref 599), sE P "set" 1024 (.ref 606), sE P "clear" 1032 (.ref 613), sE P "clear_all" 1039 (.ref 620), sE P "reset" 1046 (.ref 627), sE P "told" 1053 (.ref 634), sE P "put" 1062 (.ref 641), sE P "next_from" 1071 (.ref 648), sE P "back_from" 1081 (.ref 656), sE P "resize" 1089 (.ref 663), sE P "copy" 1096 (.ref 670), sE P "__static_attributes__" 1099 (.ref 671)] 16), #[]⟩
noncomputable def o583 : Obj := ⟨.none, none, (.fields #[(.int 369 0), (.int 4 0), (.ref 591), (.int 374 0), (.int 4 0), (.ref 598), (.int 379 0), (.int 4 0), (.ref 605), (.int 383 0), (.int 4 0), (.ref 612), (.int 386 0), (.int 4 0), (.ref 619), (.int 389 0), (.int 4 0), (.ref 626), (.int 393 0), (.int 4 0), (.ref 633), (.int 396 0), (.int 4 0), (.ref 640), (.int 401 0), (.int 4 0), (.ref 647), (.int 404 0), (.int 4 0), (.ref 655), (.int 407 0), (.int 4 0), (.ref 662), (.int 410 0), (.int 4 0), (.ref 669)]), #[]⟩
noncomputable def o584 : Obj := cdO "Tabs" 990 "Tabs" 991 992 367 0 0 582 false 583 .none .none .none 993 367 994
noncomputable def o585 : Obj := ⟨(.type "frame"), none, .plain, #[(some (.ref 584)), (some (.ref 3)), (some (.ref 581)), none, (some (.str "termcore.cursor" 759)), none, (some (.ref 0))]⟩
noncomputable def o588 : Obj := tpO #[(.str "self" 1003), (.str "columns" 1004)]
noncomputable def o590 : Obj := ⟨.none, none, (.func (fdA (at2 65 0) "__init__" "Tabs.__init__" 0 .none .none .none .none none .none .none 0)), #[]⟩
noncomputable def o591 : Obj := cdO "__init__" 1000 "Tabs.__init__" 1001 1002 369 2 3 586 true 587 (.ref 588) (.ref 589) (.ref 590) 1005 369 1006
noncomputable def o592 : Obj := ⟨(.type "function"), none, (.func (fdA (at2 65 0) "__init__" "Tabs.__init__" 3 .none .none .none (.str "termcore.cursor" 759) none (.ref 591) .none 0)), #[]⟩
noncomputable def o595 : Obj := tpO #[(.str "self" 1011), (.str "begin" 1012), (.str "column" 1013)]
noncomputable def o597 : Obj := ⟨.none, none, (.func (fdA (at2 65 1) "put_eighths" "Tabs.put_eighths" 0 .none .none .none .none none .none .none 0)), #[]⟩
noncomputable def o598 : Obj := cdO "put_eighths" 1008 "Tabs.put_eighths" 1009 1010 374 2 3 593 true 594 (.ref 595) (.ref 596) (.ref 597) 1014 374 1015
noncomputable def o599 : Obj := ⟨(.type "function"), none, (.func (fdA (at2 65 1) "put_eighths" "Tabs.put_eighths" 3 .none .none .none (.str "termcore.cursor" 759) none (.ref 598) .none 0)), #[]⟩
noncomputable def o602 : Obj := tpO #[(.str "self" 1020), (.str "column" 1021)]
noncomputable def o604 : Obj := ⟨.none, none, (.func (fdA (at2 65 2) "set" "Tabs.set" 0 .none .none .none .none none .none .none 0)), #[]⟩
noncomputable def o605 : Obj := cdO "set" 1017 "Tabs.set" 1018 1019 379 2 3 600 true 601 (.ref 602) (.ref 603) (.ref 604) 1022 379 1023
noncomputable def o606 : Obj := ⟨(.type "function"), none, (.func (fdA (at2 65 2) "set" "Tabs.set" 3 .none .none .none (.str "termcore.cursor" 759) none (.ref 605) .none 0)), #[]⟩
noncomputable def o609 : Obj := tpO #[(.str "self" 1028), (.str "column" 1029)]
noncomputable def o611 : Obj := ⟨.none, none, (.func (fdA (at2 65 3) "clear" "Tabs.clear" 0 .none .none .none .none none .none .none 0)), #[]⟩
noncomputable def o612 : Obj := cdO "clear" 1025 "Tabs.clear" 1026 1027 383 2 3 607 true 608 (.ref 609) (.ref 610) (.ref 611) 1030 383 1031
noncomputable def o613 : Obj := ⟨(.type "function"), none, (.func (fdA (at2 65 3) "clear" "Tabs.clear" 3 .none .none .none (.str "termcore.cursor" 759) none (.ref 612) .none 0)), #[]⟩
noncomputable def o616 : Obj := tpO #[(.str "self" 1036)]
noncomputable def o618 : Obj := ⟨.none, none, (.func (fdA (at2 65 4) "clear_all" "Tabs.clear_all" 0 .none .none .none .none none .none .none 0)), #[]⟩
noncomputable def o619 : Obj := cdO "clear_all" 1033 "Tabs.clear_all" 1034 1035 386 1 3 614 true 615 (.ref 616) (.ref 617) (.ref 618) 1037 386 1038
noncomputable def o620 : Obj := ⟨(.type "function"), none, (.func (fdA (at2 65 4) "clear_all" "Tabs.clear_all" 3 .none .none .none (.str "termcore.cursor" 759) none (.ref 619) .none 0)), #[]⟩
noncomputable def o623 : Obj := tpO #[(.str "self" 1043)]
noncomputable def o625 : Obj := ⟨.none, none, (.func (fdA (at2 65 5) "reset" "Tabs.reset" 0 .none .none .none .none none .none .none 0)), #[]⟩
noncomputable def o626 : Obj := cdO "reset" 1040 "Tabs.reset" 1041 1042 389 1 3 621 true 622 (.ref 623) (.ref 624) (.ref 625) 1044 389 1045
noncomputable def o627 : Obj := ⟨(.type "function"), none, (.func (fdA (at2 65 5) "reset" "Tabs.reset" 3 .none .none .none (.str "termcore.cursor" 759) none (.ref 626) .none 0)), #[]⟩
noncomputable def o630 : Obj := tpO #[(.str "self" 1050)]
noncomputable def o632 : Obj := ⟨.none, none, (.func (fdA (at2 65 6) "told" "Tabs.told" 0 .none .none .none .none none .none .none 0)), #[]⟩
noncomputable def o633 : Obj := cdO "told" 1047 "Tabs.told" 1048 1049 393 1 3 628 true 629 (.ref 630) (.ref 631) (.ref 632) 1051 393 1052
noncomputable def o634 : Obj := ⟨(.type "function"), none, (.func (fdA (at2 65 6) "told" "Tabs.told" 3 .none .none .none (.str "termcore.cursor" 759) none (.ref 633) .none 0)), #[]⟩
noncomputable def o637 : Obj := tpO #[(.str "self" 1057), (.str "columns" 1058), (.str "column" 1059)]
noncomputable def o639 : Obj := ⟨.none, none, (.func (fdA (at2 65 7) "put" "Tabs.put" 0 .none .none .none .none none .none .none 0)), #[]⟩
noncomputable def o640 : Obj := cdO "put" 1054 "Tabs.put" 1055 1056 396 2 3 635 true 636 (.ref 637) (.ref 638) (.ref 639) 1060 396 1061
noncomputable def o641 : Obj := ⟨(.type "function"), none, (.func (fdA (at2 65 7) "put" "Tabs.put" 3 .none .none .none (.str "termcore.cursor" 759) none (.ref 640) .none 0)), #[]⟩
noncomputable def o644 : Obj := tpO #[(.str "self" 1066), (.str "column" 1067), (.str "most" 1068)]
noncomputable def o646 : Obj := ⟨.none, none, (.func (fdA (at2 65 8) "next_from" "Tabs.next_from" 0 .none .none .none .none none .none .none 0)), #[]⟩
noncomputable def o647 : Obj := cdO "next_from" 1063 "Tabs.next_from" 1064 1065 401 3 3 642 true 643 (.ref 644) (.ref 645) (.ref 646) 1069 401 1070
noncomputable def o648 : Obj := ⟨(.type "function"), none, (.func (fdA (at2 65 8) "next_from" "Tabs.next_from" 3 .none .none .none (.str "termcore.cursor" 759) none (.ref 647) .none 0)), #[]⟩
noncomputable def o649 : Obj := tpO #[(.int 0 1072)]
noncomputable def o652 : Obj := tpO #[(.str "self" 1076), (.str "column" 1077), (.str "least" 1078)]
noncomputable def o654 : Obj := ⟨.none, none, (.func (fdA (at2 65 9) "back_from" "Tabs.back_from" 0 .none .none .none .none none .none .none 0)), #[]⟩
noncomputable def o655 : Obj := cdO "back_from" 1073 "Tabs.back_from" 1074 1075 404 3 3 650 true 651 (.ref 652) (.ref 653) (.ref 654) 1079 404 1080
noncomputable def o656 : Obj := ⟨(.type "function"), none, (.func (fdA (at2 65 9) "back_from" "Tabs.back_from" 3 (.ref 649) .none .none (.str "termcore.cursor" 759) none (.ref 655) .none 0)), #[]⟩
noncomputable def o659 : Obj := tpO #[(.str "self" 1085), (.str "columns" 1086)]
noncomputable def o661 : Obj := ⟨.none, none, (.func (fdA (at2 65 10) "resize" "Tabs.resize" 0 .none .none .none .none none .none .none 0)), #[]⟩
noncomputable def o662 : Obj := cdO "resize" 1082 "Tabs.resize" 1083 1084 407 2 3 657 true 658 (.ref 659) (.ref 660) (.ref 661) 1087 407 1088
noncomputable def o663 : Obj := ⟨(.type "function"), none, (.func (fdA (at2 65 10) "resize" "Tabs.resize" 3 .none .none .none (.str "termcore.cursor" 759) none (.ref 662) .none 0)), #[]⟩
noncomputable def o666 : Obj := tpO #[(.str "self" 1093)]
noncomputable def o668 : Obj := ⟨.none, none, (.func (fdA (at2 65 11) "copy" "Tabs.copy" 0 .none .none .none .none none .none .none 0)), #[]⟩
noncomputable def o669 : Obj := cdO "copy" 1090 "Tabs.copy" 1091 1092 410 1 3 664 true 665 (.ref 666) (.ref 667) (.ref 668) 1094 410 1095
noncomputable def o670 : Obj := ⟨(.type "function"), none, (.func (fdA (at2 65 11) "copy" "Tabs.copy" 3 .none .none .none (.str "termcore.cursor" 759) none (.ref 669) .none 0)), #[]⟩
noncomputable def o671 : Obj := tpO #[(.str "columns" 1097), (.str "stops" 1098)]
noncomputable def o672 : Obj := ⟨(.type "dict"), none, (.dict #[sE P "__module__" 995 (.str "termcore.cursor" 759), sE P "__firstlineno__" 999 (.int 367 998), sE P "__init__" 1007 (.ref 592), sE P "put_eighths" 1016 (.ref 599), sE P "set" 1024 (.ref 606), sE P "clear" 1032 (.ref 613), sE P "clear_all" 1039 (.ref 620), sE P "reset" 1046 (.ref 627), sE P "told" 1053 (.ref 634), sE P "put" 1062 (.ref 641), sE P "next_from" 1071 (.ref 648), sE P "back_from" 1081 (.ref 656), sE P "resize" 1089 (.ref 663), sE P "copy" 1096 (.ref 670), sE P "__static_attributes__" 1099 (.ref 671), sE P "__dict__" 1101 (.ref 674), sE P "__weakref__" 1103 (.ref 675), sE P "__doc__" 1104 .none] 4), #[]⟩
noncomputable def o673 : Obj := ⟨(.type "type"), none, (.cls ⟨"Tabs", [(.type "object")], [(.ref 673), (.type "object")], 672, "Tabs", true, [], [], false, none, false⟩), #[none, none, (some (.str "Tabs" 988)), (some (.str "Tabs" 996)), (some (.builtin "object.__new__")), (some (.bool true))]⟩
noncomputable def o674 : Obj := ⟨(.type "getset_descriptor"), none, (.fields #[(.str "__dict__" 1100), (.ref 673), (.builtin "function.__dict__"), (.builtin "function.__dict__#set")]), #[]⟩
noncomputable def o675 : Obj := ⟨(.type "getset_descriptor"), none, (.fields #[(.str "__weakref__" 1102), (.ref 673), (.builtin "ExceptionGroup.__weakref__"), .none]), #[]⟩
noncomputable def o676 : Obj := ⟨(.type "super"), none, (.fields #[(.ref 673), (.ref 673), (.ref 673)]), #[]⟩
noncomputable def o677 : Obj := ⟨(.type "builtin_function_or_method"), none, (.fields #[(.builtin "object.__init_subclass__"), (.ref 673)]), #[]⟩
noncomputable def o678 : Obj := tpO #[(.str "single" 1109), (.str "wide" 1110), (.str "top" 1111), (.str "bottom" 1112)]
noncomputable def o681 : Obj := tpO #[(.str "many" 1117), (.str "pen" 1118)]
noncomputable def o683 : Obj := ⟨.none, none, (.func (fdA (at1 68) "line_blanks" "line_blanks" 0 .none .none .none .none none .none .none 0)), #[]⟩
noncomputable def o684 : Obj := cdO "line_blanks" 1114 "line_blanks" 1115 1116 414 2 3 679 true 680 (.ref 681) (.ref 682) (.ref 683) 1119 414 1120
noncomputable def o685 : Obj := ⟨(.type "function"), none, (.func (fdA (at1 68) "line_blanks" "line_blanks" 3 .none .none .none (.str "termcore.lines" 1107) none (.ref 684) .none 0)), #[]⟩
noncomputable def o688 : Obj := tpO #[(.str "cell" 1125)]
noncomputable def o690 : Obj := ⟨.none, none, (.func (fdA (at1 69) "right_half" "right_half" 0 .none .none .none .none none .none .none 0)), #[]⟩
noncomputable def o691 : Obj := cdO "right_half" 1122 "right_half" 1123 1124 416 1 3 686 true 687 (.ref 688) (.ref 689) (.ref 690) 1126 416 1127
noncomputable def o692 : Obj := ⟨(.type "function"), none, (.func (fdA (at1 69) "right_half" "right_half" 3 .none .none .none (.str "termcore.lines" 1107) none (.ref 691) .none 0)), #[]⟩
noncomputable def o695 : Obj := tpO #[(.str "cells" 1132), (.str "at" 1133)]
noncomputable def o697 : Obj := ⟨.none, none, (.func (fdA (at1 70) "line_part" "line_part" 0 .none .none .none .none none .none .none 0)), #[]⟩
noncomputable def o698 : Obj := cdO "line_part" 1129 "line_part" 1130 1131 418 2 3 693 true 694 (.ref 695) (.ref 696) (.ref 697) 1134 418 1135
noncomputable def o699 : Obj := ⟨(.type "function"), none, (.func (fdA (at1 70) "line_part" "line_part" 3 .none .none .none (.str "termcore.lines" 1107) none (.ref 698) .none 0)), #[]⟩
noncomputable def o702 : Obj := tpO #[(.str "cells" 1140), (.str "left" 1141), (.str "right" 1142), (.str "found" 1143)]
noncomputable def o704 : Obj := ⟨.none, none, (.func (fdA (at1 71) "line_slice" "line_slice" 0 .none .none .none .none none .none .none 0)), #[]⟩
noncomputable def o705 : Obj := cdO "line_slice" 1137 "line_slice" 1138 1139 422 3 3 700 true 701 (.ref 702) (.ref 703) (.ref 704) 1144 422 1145
noncomputable def o706 : Obj := ⟨(.type "function"), none, (.func (fdA (at1 71) "line_slice" "line_slice" 3 .none .none .none (.str "termcore.lines" 1107) none (.ref 705) .none 0)), #[]⟩
noncomputable def o709 : Obj := tpO #[(.str "cells" 1150), (.str "last" 1151), (.str "found" 1152), (.str "cell" 1153)]
noncomputable def o711 : Obj := ⟨.none, none, (.func (fdA (at1 72) "line_codes" "line_codes" 0 .none .none .none .none none .none .none 0)), #[]⟩
noncomputable def o712 : Obj := cdO "line_codes" 1147 "line_codes" 1148 1149 429 1 3 707 true 708 (.ref 709) (.ref 710) (.ref 711) 1154 429 1155
noncomputable def o713 : Obj := ⟨(.type "function"), none, (.func (fdA (at1 72) "line_codes" "line_codes" 3 .none .none .none (.str "termcore.lines" 1107) none (.ref 712) .none 0)), #[]⟩
noncomputable def o716 : Obj := ⟨(.type "dict"), none, (.dict #[sE P "__module__" 1164 (.str "termcore.lines" 1107), sE P "__qualname__" 1166 (.str "Line" 1165), sE P "__firstlineno__" 1168 (.int 438 1167), sE P "__init__" 1177 (.ref 727), sE P "columns" 1185 (.ref 735), sE P "shown" 1192 (.ref 742), sE P "part" 1200 (.ref 749), sE P "put" 1209 (.ref 756), sE P "put_cells" 1219 (.ref 763), sE P "erase" 1232 (.ref 771), sE P "shift" 1249 (.ref 778), sE P "insert" 1260 (.ref 785), sE P "delete" 1271 (.ref 792), sE P "fill" 1281 (.ref 799), sE P "copy" 1288 (.ref 806), sE P "codes" 1298 (.ref 814), sE P "used" 1305 (.ref 821), sE P "resized" 1314 (.ref 828), sE P "equals" 1322 (.ref 835), sE P "__static_attributes__" 1326 (.ref 836)] 20), #[]⟩
noncomputable def o718 : Obj := ⟨.none, none, (.fields #[(.int 440 0), (.int 4 0), (.ref 726), (.int 446 0), (.int 4 0), (.ref 733), (.int 449 0), (.int 4 0), (.ref 741), (.int 452 0), (.int 4 0), (.ref 748), (.int 455 0), (.int 4 0), (.ref 755), (.int 466 0), (.int 4 0), (.ref 762), (.int 474 0), (.int 4 0), (.ref 770), (.int 487 0), (.int 4 0), (.ref 777), (.int 498 0), (.int 4 0), (.ref 784), (.int 501 0), (.int 4 0), (.ref 791), (.int 504 0), (.int 4 0), (.ref 798), (.int 507 0), (.int 4 0), (.ref 805), (.int 510 0), (.int 4 0), (.ref 813), (.int 513 0), (.int 4 0), (.ref 820), (.int 516 0), (.int 4 0), (.ref 827), (.int 519 0), (.int 4 0), (.ref 834)]), #[]⟩
noncomputable def o719 : Obj := cdO "Line" 1159 "Line" 1160 1161 438 0 0 717 false 718 .none .none .none 1162 438 1163
noncomputable def o720 : Obj := ⟨(.type "frame"), none, .plain, #[(some (.ref 719)), (some (.ref 3)), (some (.ref 716)), none, (some (.str "termcore.lines" 1107)), none, (some (.ref 0))]⟩
noncomputable def o723 : Obj := tpO #[(.str "self" 1172), (.str "columns" 1173), (.str "pen" 1174)]
noncomputable def o725 : Obj := ⟨.none, none, (.func (fdA (at2 73 0) "__init__" "Line.__init__" 0 .none .none .none .none none .none .none 0)), #[]⟩
noncomputable def o726 : Obj := cdO "__init__" 1169 "Line.__init__" 1170 1171 440 3 3 721 true 722 (.ref 723) (.ref 724) (.ref 725) 1175 440 1176
noncomputable def o727 : Obj := ⟨(.type "function"), none, (.func (fdA (at2 73 0) "__init__" "Line.__init__" 3 .none .none .none (.str "termcore.lines" 1107) none (.ref 726) .none 0)), #[]⟩
noncomputable def o730 : Obj := tpO #[(.str "self" 1181)]
noncomputable def o732 : Obj := ⟨.none, none, (.func (fdA (at2 73 1) "columns" "Line.columns" 0 .none .none .none .none none .none .none 0)), #[]⟩
noncomputable def o733 : Obj := cdO "columns" 1178 "Line.columns" 1179 1180 445 1 3 728 true 729 (.ref 730) (.ref 731) (.ref 732) 1182 445 1183
noncomputable def o734 : Obj := ⟨(.type "function"), none, (.func (fdA (at2 73 1) "columns" "Line.columns" 3 .none .none .none (.str "termcore.lines" 1107) none (.ref 733) .none 0)), #[]⟩
noncomputable def o735 : Obj := ⟨(.type "property"), none, (.fields #[(.ref 734), .none, .none, .none, (.str "columns" 1185), (.bool false)]), #[]⟩
noncomputable def o738 : Obj := tpO #[(.str "self" 1189)]
noncomputable def o740 : Obj := ⟨.none, none, (.func (fdA (at2 73 2) "shown" "Line.shown" 0 .none .none .none .none none .none .none 0)), #[]⟩
noncomputable def o741 : Obj := cdO "shown" 1186 "Line.shown" 1187 1188 449 1 3 736 true 737 (.ref 738) (.ref 739) (.ref 740) 1190 449 1191
noncomputable def o742 : Obj := ⟨(.type "function"), none, (.func (fdA (at2 73 2) "shown" "Line.shown" 3 .none .none .none (.str "termcore.lines" 1107) none (.ref 741) .none 0)), #[]⟩
noncomputable def o745 : Obj := tpO #[(.str "self" 1196), (.str "at" 1197)]
noncomputable def o747 : Obj := ⟨.none, none, (.func (fdA (at2 73 3) "part" "Line.part" 0 .none .none .none .none none .none .none 0)), #[]⟩
noncomputable def o748 : Obj := cdO "part" 1193 "Line.part" 1194 1195 452 2 3 743 true 744 (.ref 745) (.ref 746) (.ref 747) 1198 452 1199
noncomputable def o749 : Obj := ⟨(.type "function"), none, (.func (fdA (at2 73 3) "part" "Line.part" 3 .none .none .none (.str "termcore.lines" 1107) none (.ref 748) .none 0)), #[]⟩
noncomputable def o752 : Obj := tpO #[(.str "self" 1204), (.str "column" 1205), (.str "cell" 1206)]
noncomputable def o754 : Obj := ⟨.none, none, (.func (fdA (at2 73 4) "put" "Line.put" 0 .none .none .none .none none .none .none 0)), #[]⟩
noncomputable def o755 : Obj := cdO "put" 1201 "Line.put" 1202 1203 455 3 3 750 true 751 (.ref 752) (.ref 753) (.ref 754) 1207 455 1208
noncomputable def o756 : Obj := ⟨(.type "function"), none, (.func (fdA (at2 73 4) "put" "Line.put" 3 .none .none .none (.str "termcore.lines" 1107) none (.ref 755) .none 0)), #[]⟩
noncomputable def o759 : Obj := tpO #[(.str "self" 1213), (.str "column" 1214), (.str "cells" 1215), (.str "some" 1216)]
noncomputable def o761 : Obj := ⟨.none, none, (.func (fdA (at2 73 5) "put_cells" "Line.put_cells" 0 .none .none .none .none none .none .none 0)), #[]⟩
noncomputable def o762 : Obj := cdO "put_cells" 1210 "Line.put_cells" 1211 1212 466 3 3 757 true 758 (.ref 759) (.ref 760) (.ref 761) 1217 466 1218
noncomputable def o763 : Obj := ⟨(.type "function"), none, (.func (fdA (at2 73 5) "put_cells" "Line.put_cells" 3 .none .none .none (.str "termcore.lines" 1107) none (.ref 762) .none 0)), #[]⟩
noncomputable def o767 : Obj := tpO #[(.str "self" 1223), (.str "left" 1224), (.str "right" 1225), (.str "pen" 1226), (.str "is_selective" 1227), (.str "border" 1228), (.str "column" 1229)]
noncomputable def o769 : Obj := ⟨.none, none, (.func (fdA (at2 73 6) "erase" "Line.erase" 0 .none .none .none .none none .none .none 0)), #[]⟩
noncomputable def o770 : Obj := cdO "erase" 1220 "Line.erase" 1221 1222 474 5 3 765 true 766 (.ref 767) (.ref 768) (.ref 769) 1230 474 1231
noncomputable def o771 : Obj := ⟨(.type "function"), none, (.func (fdA (at2 73 6) "erase" "Line.erase" 3 (.ref 764) .none .none (.str "termcore.lines" 1107) none (.ref 770) .none 0)), #[]⟩
noncomputable def o774 : Obj := tpO #[(.str "self" 1236), (.str "column" 1237), (.str "many" 1238), (.str "right" 1239), (.str "pen" 1240), (.str "is_back" 1241), (.str "first" 1242), (.str "last" 1243), (.str "border" 1244), (.str "kept" 1245), (.str "blanks" 1246)]
noncomputable def o776 : Obj := ⟨.none, none, (.func (fdA (at2 73 7) "shift" "Line.shift" 0 .none .none .none .none none .none .none 0)), #[]⟩
noncomputable def o777 : Obj := cdO "shift" 1233 "Line.shift" 1234 1235 487 6 3 772 true 773 (.ref 774) (.ref 775) (.ref 776) 1247 487 1248
noncomputable def o778 : Obj := ⟨(.type "function"), none, (.func (fdA (at2 73 7) "shift" "Line.shift" 3 .none .none .none (.str "termcore.lines" 1107) none (.ref 777) .none 0)), #[]⟩
noncomputable def o781 : Obj := tpO #[(.str "self" 1253), (.str "column" 1254), (.str "many" 1255), (.str "right" 1256), (.str "pen" 1257)]
noncomputable def o783 : Obj := ⟨.none, none, (.func (fdA (at2 73 8) "insert" "Line.insert" 0 .none .none .none .none none .none .none 0)), #[]⟩
noncomputable def o784 : Obj := cdO "insert" 1250 "Line.insert" 1251 1252 498 5 3 779 true 780 (.ref 781) (.ref 782) (.ref 783) 1258 498 1259
noncomputable def o785 : Obj := ⟨(.type "function"), none, (.func (fdA (at2 73 8) "insert" "Line.insert" 3 .none .none .none (.str "termcore.lines" 1107) none (.ref 784) .none 0)), #[]⟩
noncomputable def o788 : Obj := tpO #[(.str "self" 1264), (.str "column" 1265), (.str "many" 1266), (.str "right" 1267), (.str "pen" 1268)]
noncomputable def o790 : Obj := ⟨.none, none, (.func (fdA (at2 73 9) "delete" "Line.delete" 0 .none .none .none .none none .none .none 0)), #[]⟩
noncomputable def o791 : Obj := cdO "delete" 1261 "Line.delete" 1262 1263 501 5 3 786 true 787 (.ref 788) (.ref 789) (.ref 790) 1269 501 1270
noncomputable def o792 : Obj := ⟨(.type "function"), none, (.func (fdA (at2 73 9) "delete" "Line.delete" 3 .none .none .none (.str "termcore.lines" 1107) none (.ref 791) .none 0)), #[]⟩
noncomputable def o795 : Obj := tpO #[(.str "self" 1275), (.str "left" 1276), (.str "right" 1277), (.str "cell" 1278)]
noncomputable def o797 : Obj := ⟨.none, none, (.func (fdA (at2 73 10) "fill" "Line.fill" 0 .none .none .none .none none .none .none 0)), #[]⟩
noncomputable def o798 : Obj := cdO "fill" 1272 "Line.fill" 1273 1274 504 4 3 793 true 794 (.ref 795) (.ref 796) (.ref 797) 1279 504 1280
noncomputable def o799 : Obj := ⟨(.type "function"), none, (.func (fdA (at2 73 10) "fill" "Line.fill" 3 .none .none .none (.str "termcore.lines" 1107) none (.ref 798) .none 0)), #[]⟩
noncomputable def o802 : Obj := tpO #[(.str "self" 1285)]
noncomputable def o804 : Obj := ⟨.none, none, (.func (fdA (at2 73 11) "copy" "Line.copy" 0 .none .none .none .none none .none .none 0)), #[]⟩
noncomputable def o805 : Obj := cdO "copy" 1282 "Line.copy" 1283 1284 507 1 3 800 true 801 (.ref 802) (.ref 803) (.ref 804) 1286 507 1287
noncomputable def o806 : Obj := ⟨(.type "function"), none, (.func (fdA (at2 73 11) "copy" "Line.copy" 3 .none .none .none (.str "termcore.lines" 1107) none (.ref 805) .none 0)), #[]⟩
noncomputable def o807 : Obj := tpO #[(.int 0 1289), .none]
noncomputable def o810 : Obj := tpO #[(.str "self" 1293), (.str "left" 1294), (.str "right" 1295)]
noncomputable def o812 : Obj := ⟨.none, none, (.func (fdA (at2 73 12) "codes" "Line.codes" 0 .none .none .none .none none .none .none 0)), #[]⟩
noncomputable def o813 : Obj := cdO "codes" 1290 "Line.codes" 1291 1292 510 3 3 808 true 809 (.ref 810) (.ref 811) (.ref 812) 1296 510 1297
noncomputable def o814 : Obj := ⟨(.type "function"), none, (.func (fdA (at2 73 12) "codes" "Line.codes" 3 (.ref 807) .none .none (.str "termcore.lines" 1107) none (.ref 813) .none 0)), #[]⟩
noncomputable def o817 : Obj := tpO #[(.str "self" 1302)]
noncomputable def o819 : Obj := ⟨.none, none, (.func (fdA (at2 73 13) "used" "Line.used" 0 .none .none .none .none none .none .none 0)), #[]⟩
noncomputable def o820 : Obj := cdO "used" 1299 "Line.used" 1300 1301 513 1 3 815 true 816 (.ref 817) (.ref 818) (.ref 819) 1303 513 1304
noncomputable def o821 : Obj := ⟨(.type "function"), none, (.func (fdA (at2 73 13) "used" "Line.used" 3 .none .none .none (.str "termcore.lines" 1107) none (.ref 820) .none 0)), #[]⟩
noncomputable def o824 : Obj := tpO #[(.str "self" 1309), (.str "columns" 1310), (.str "pen" 1311)]
noncomputable def o826 : Obj := ⟨.none, none, (.func (fdA (at2 73 14) "resized" "Line.resized" 0 .none .none .none .none none .none .none 0)), #[]⟩
noncomputable def o827 : Obj := cdO "resized" 1306 "Line.resized" 1307 1308 516 3 3 822 true 823 (.ref 824) (.ref 825) (.ref 826) 1312 516 1313
noncomputable def o828 : Obj := ⟨(.type "function"), none, (.func (fdA (at2 73 14) "resized" "Line.resized" 3 .none .none .none (.str "termcore.lines" 1107) none (.ref 827) .none 0)), #[]⟩
noncomputable def o831 : Obj := tpO #[(.str "self" 1318), (.str "other" 1319)]
noncomputable def o833 : Obj := ⟨.none, none, (.func (fdA (at2 73 15) "equals" "Line.equals" 0 .none .none .none .none none .none .none 0)), #[]⟩
noncomputable def o834 : Obj := cdO "equals" 1315 "Line.equals" 1316 1317 519 2 3 829 true 830 (.ref 831) (.ref 832) (.ref 833) 1320 519 1321
noncomputable def o835 : Obj := ⟨(.type "function"), none, (.func (fdA (at2 73 15) "equals" "Line.equals" 3 .none .none .none (.str "termcore.lines" 1107) none (.ref 834) .none 0)), #[]⟩
noncomputable def o836 : Obj := tpO #[(.str "cells" 1323), (.str "is_wrapped" 1324), (.str "size" 1325)]
noncomputable def o837 : Obj := ⟨(.type "dict"), none, (.dict #[sE P "__module__" 1164 (.str "termcore.lines" 1107), sE P "__firstlineno__" 1168 (.int 438 1167), sE P "__init__" 1177 (.ref 727), sE P "columns" 1185 (.ref 735), sE P "shown" 1192 (.ref 742), sE P "part" 1200 (.ref 749), sE P "put" 1209 (.ref 756), sE P "put_cells" 1219 (.ref 763), sE P "erase" 1232 (.ref 771), sE P "shift" 1249 (.ref 778), sE P "insert" 1260 (.ref 785), sE P "delete" 1271 (.ref 792), sE P "fill" 1281 (.ref 799), sE P "copy" 1288 (.ref 806), sE P "codes" 1298 (.ref 814), sE P "used" 1305 (.ref 821), sE P "resized" 1314 (.ref 828), sE P "equals" 1322 (.ref 835), sE P "__static_attributes__" 1326 (.ref 836), sE P "__dict__" 1328 (.ref 839), sE P "__weakref__" 1330 (.ref 840), sE P "__doc__" 1331 .none] 4), #[]⟩
noncomputable def o838 : Obj := ⟨(.type "type"), none, (.cls ⟨"Line", [(.type "object")], [(.ref 838), (.type "object")], 837, "Line", true, [], [], false, none, false⟩), #[none, none, (some (.str "Line" 1157)), (some (.str "Line" 1165)), (some (.builtin "object.__new__")), (some (.bool true))]⟩
noncomputable def o839 : Obj := ⟨(.type "getset_descriptor"), none, (.fields #[(.str "__dict__" 1327), (.ref 838), (.builtin "function.__dict__"), (.builtin "function.__dict__#set")]), #[]⟩
noncomputable def o840 : Obj := ⟨(.type "getset_descriptor"), none, (.fields #[(.str "__weakref__" 1329), (.ref 838), (.builtin "ExceptionGroup.__weakref__"), .none]), #[]⟩
noncomputable def o841 : Obj := ⟨(.type "super"), none, (.fields #[(.ref 838), (.ref 838), (.ref 838)]), #[]⟩
noncomputable def o842 : Obj := ⟨(.type "builtin_function_or_method"), none, (.fields #[(.builtin "object.__init_subclass__"), (.ref 838)]), #[]⟩
noncomputable def o845 : Obj := ⟨(.type "dict"), none, (.dict #[sE P "__module__" 1343 (.str "termcore.grid" 1334), sE P "__qualname__" 1345 (.str "Grid" 1344), sE P "__firstlineno__" 1347 (.int 522 1346), sE P "__init__" 1353 (.ref 854), sE P "line" 1361 (.ref 861), sE P "whole_area" 1368 (.ref 868), sE P "is_wide" 1376 (.ref 875), sE P "fresh" 1382 (.ref 880), sE P "part_above" 1390 (.ref 887), sE P "scroll_up" 1407 (.ref 894), sE P "scroll_down" 1417 (.ref 901), sE P "unwrap" 1426 (.ref 908), sE P "insert_columns" 1437 (.ref 915), sE P "delete_columns" 1448 (.ref 922), sE P "cells_of" 1458 (.ref 929), sE P "put_cells" 1472 (.ref 936), sE P "erase_area" 1487 (.ref 944), sE P "fill_area" 1496 (.ref 951), sE P "copy_area" 1506 (.ref 958), sE P "cells_in" 1514 (.ref 965), sE P "copy" 1521 (.ref 972), sE P "equals" 1529 (.ref 979), sE P "text" 1535 (.ref 984), sE P "__static_attributes__" 1539 (.ref 985)] 24), #[]⟩
noncomputable def o847 : Obj := ⟨.none, none, (.fields #[(.int 524 0), (.int 4 0), (.ref 853), (.int 531 0), (.int 4 0), (.ref 860), (.int 534 0), (.int 4 0), (.ref 867), (.int 537 0), (.int 4 0), (.ref 874), (.int 540 0), (.int 4 0), (.ref 879), (.int 543 0), (.int 4 0), (.ref 886), (.int 547 0), (.int 4 0), (.ref 893), (.int 565 0), (.int 4 0), (.ref 900), (.int 568 0), (.int 4 0), (.ref 907), (.int 576 0), (.int 4 0), (.ref 914), (.int 579 0), (.int 4 0), (.ref 921), (.int 582 0), (.int 4 0), (.ref 928), (.int 585 0), (.int 4 0), (.ref 935), (.int 596 0), (.int 4 0), (.ref 943), (.int 603 0), (.int 4 0), (.ref 950), (.int 606 0), (.int 4 0), (.ref 957), (.int 609 0), (.int 4 0), (.ref 964), (.int 612 0), (.int 4 0), (.ref 971), (.int 615 0), (.int 4 0), (.ref 978), (.int 618 0), (.int 4 0), (.ref 983)]), #[]⟩
noncomputable def o848 : Obj := cdO "Grid" 1338 "Grid" 1339 1340 522 0 0 846 false 847 .none .none .none 1341 522 1342
noncomputable def o849 : Obj := ⟨(.type "frame"), none, .plain, #[(some (.ref 848)), (some (.ref 3)), (some (.ref 845)), none, (some (.str "termcore.grid" 1334)), none, (some (.ref 0))]⟩
noncomputable def o852 : Obj := ⟨.none, none, (.func (fdA (at2 75 0) "__init__" "Grid.__init__" 0 .none .none .none .none none .none .none 0)), #[]⟩
noncomputable def o853 : Obj := cdO "__init__" 1348 "Grid.__init__" 1349 1350 524 3 3 850 true 851 .none .none (.ref 852) 1351 524 1352
noncomputable def o854 : Obj := ⟨(.type "function"), none, (.func (fdA (at2 75 0) "__init__" "Grid.__init__" 3 .none .none .none (.str "termcore.grid" 1334) none (.ref 853) .none 0)), #[]⟩
noncomputable def o857 : Obj := tpO #[(.str "self" 1357), (.str "row" 1358)]
noncomputable def o859 : Obj := ⟨.none, none, (.func (fdA (at2 75 1) "line" "Grid.line" 0 .none .none .none .none none .none .none 0)), #[]⟩
noncomputable def o860 : Obj := cdO "line" 1354 "Grid.line" 1355 1356 531 2 3 855 true 856 (.ref 857) (.ref 858) (.ref 859) 1359 531 1360
noncomputable def o861 : Obj := ⟨(.type "function"), none, (.func (fdA (at2 75 1) "line" "Grid.line" 3 .none .none .none (.str "termcore.grid" 1334) none (.ref 860) .none 0)), #[]⟩
noncomputable def o864 : Obj := tpO #[(.str "self" 1365)]
noncomputable def o866 : Obj := ⟨.none, none, (.func (fdA (at2 75 2) "whole_area" "Grid.whole_area" 0 .none .none .none .none none .none .none 0)), #[]⟩
noncomputable def o867 : Obj := cdO "whole_area" 1362 "Grid.whole_area" 1363 1364 534 1 3 862 true 863 (.ref 864) (.ref 865) (.ref 866) 1366 534 1367
noncomputable def o868 : Obj := ⟨(.type "function"), none, (.func (fdA (at2 75 2) "whole_area" "Grid.whole_area" 3 .none .none .none (.str "termcore.grid" 1334) none (.ref 867) .none 0)), #[]⟩
noncomputable def o871 : Obj := tpO #[(.str "self" 1372), (.str "area" 1373)]
noncomputable def o873 : Obj := ⟨.none, none, (.func (fdA (at2 75 3) "is_wide" "Grid.is_wide" 0 .none .none .none .none none .none .none 0)), #[]⟩
noncomputable def o874 : Obj := cdO "is_wide" 1369 "Grid.is_wide" 1370 1371 537 2 3 869 true 870 (.ref 871) (.ref 872) (.ref 873) 1374 537 1375
noncomputable def o875 : Obj := ⟨(.type "function"), none, (.func (fdA (at2 75 3) "is_wide" "Grid.is_wide" 3 .none .none .none (.str "termcore.grid" 1334) none (.ref 874) .none 0)), #[]⟩
noncomputable def o878 : Obj := ⟨.none, none, (.func (fdA (at2 75 4) "fresh" "Grid.fresh" 0 .none .none .none .none none .none .none 0)), #[]⟩
noncomputable def o879 : Obj := cdO "fresh" 1377 "Grid.fresh" 1378 1379 540 3 3 876 true 877 .none .none (.ref 878) 1380 540 1381
noncomputable def o880 : Obj := ⟨(.type "function"), none, (.func (fdA (at2 75 4) "fresh" "Grid.fresh" 3 .none .none .none (.str "termcore.grid" 1334) none (.ref 879) .none 0)), #[]⟩
noncomputable def o883 : Obj := tpO #[(.str "self" 1386), (.str "row" 1387)]
noncomputable def o885 : Obj := ⟨.none, none, (.func (fdA (at2 75 5) "part_above" "Grid.part_above" 0 .none .none .none .none none .none .none 0)), #[]⟩
noncomputable def o886 : Obj := cdO "part_above" 1383 "Grid.part_above" 1384 1385 543 2 3 881 true 882 (.ref 883) (.ref 884) (.ref 885) 1388 543 1389
noncomputable def o887 : Obj := ⟨(.type "function"), none, (.func (fdA (at2 75 5) "part_above" "Grid.part_above" 3 .none .none .none (.str "termcore.grid" 1334) none (.ref 886) .none 0)), #[]⟩
noncomputable def o890 : Obj := tpO #[(.str "self" 1394), (.str "area" 1395), (.str "many" 1396), (.str "pen" 1397), (.str "top" 1398), (.str "left" 1399), (.str "bottom" 1400), (.str "right" 1401), (.str "row" 1402), (.str "gone" 1403), (.str "kept" 1404)]
noncomputable def o892 : Obj := ⟨.none, none, (.func (fdA (at2 75 6) "scroll_up" "Grid.scroll_up" 0 .none .none .none .none none .none .none 0)), #[]⟩
noncomputable def o893 : Obj := cdO "scroll_up" 1391 "Grid.scroll_up" 1392 1393 547 4 3 888 true 889 (.ref 890) (.ref 891) (.ref 892) 1405 547 1406
noncomputable def o894 : Obj := ⟨(.type "function"), none, (.func (fdA (at2 75 6) "scroll_up" "Grid.scroll_up" 3 .none .none .none (.str "termcore.grid" 1334) none (.ref 893) .none 0)), #[]⟩
noncomputable def o897 : Obj := tpO #[(.str "self" 1411), (.str "area" 1412), (.str "many" 1413), (.str "pen" 1414)]
noncomputable def o899 : Obj := ⟨.none, none, (.func (fdA (at2 75 7) "scroll_down" "Grid.scroll_down" 0 .none .none .none .none none .none .none 0)), #[]⟩
noncomputable def o900 : Obj := cdO "scroll_down" 1408 "Grid.scroll_down" 1409 1410 565 4 3 895 true 896 (.ref 897) (.ref 898) (.ref 899) 1415 565 1416
noncomputable def o901 : Obj := ⟨(.type "function"), none, (.func (fdA (at2 75 7) "scroll_down" "Grid.scroll_down" 3 .none .none .none (.str "termcore.grid" 1334) none (.ref 900) .none 0)), #[]⟩
noncomputable def o904 : Obj := tpO #[(.str "self" 1421), (.str "area" 1422), (.str "row" 1423)]
noncomputable def o906 : Obj := ⟨.none, none, (.func (fdA (at2 75 8) "unwrap" "Grid.unwrap" 0 .none .none .none .none none .none .none 0)), #[]⟩
noncomputable def o907 : Obj := cdO "unwrap" 1418 "Grid.unwrap" 1419 1420 568 2 3 902 true 903 (.ref 904) (.ref 905) (.ref 906) 1424 568 1425
noncomputable def o908 : Obj := ⟨(.type "function"), none, (.func (fdA (at2 75 8) "unwrap" "Grid.unwrap" 3 .none .none .none (.str "termcore.grid" 1334) none (.ref 907) .none 0)), #[]⟩
noncomputable def o911 : Obj := tpO #[(.str "self" 1430), (.str "area" 1431), (.str "column" 1432), (.str "many" 1433), (.str "pen" 1434)]
noncomputable def o913 : Obj := ⟨.none, none, (.func (fdA (at2 75 9) "insert_columns" "Grid.insert_columns" 0 .none .none .none .none none .none .none 0)), #[]⟩
noncomputable def o914 : Obj := cdO "insert_columns" 1427 "Grid.insert_columns" 1428 1429 576 5 3 909 true 910 (.ref 911) (.ref 912) (.ref 913) 1435 576 1436
noncomputable def o915 : Obj := ⟨(.type "function"), none, (.func (fdA (at2 75 9) "insert_columns" "Grid.insert_columns" 3 .none .none .none (.str "termcore.grid" 1334) none (.ref 914) .none 0)), #[]⟩
noncomputable def o918 : Obj := tpO #[(.str "self" 1441), (.str "area" 1442), (.str "column" 1443), (.str "many" 1444), (.str "pen" 1445)]
noncomputable def o920 : Obj := ⟨.none, none, (.func (fdA (at2 75 10) "delete_columns" "Grid.delete_columns" 0 .none .none .none .none none .none .none 0)), #[]⟩
noncomputable def o921 : Obj := cdO "delete_columns" 1438 "Grid.delete_columns" 1439 1440 579 5 3 916 true 917 (.ref 918) (.ref 919) (.ref 920) 1446 579 1447
noncomputable def o922 : Obj := ⟨(.type "function"), none, (.func (fdA (at2 75 10) "delete_columns" "Grid.delete_columns" 3 .none .none .none (.str "termcore.grid" 1334) none (.ref 921) .none 0)), #[]⟩
noncomputable def o925 : Obj := tpO #[(.str "self" 1452), (.str "row" 1453), (.str "left" 1454), (.str "right" 1455)]
noncomputable def o927 : Obj := ⟨.none, none, (.func (fdA (at2 75 11) "cells_of" "Grid.cells_of" 0 .none .none .none .none none .none .none 0)), #[]⟩
noncomputable def o928 : Obj := cdO "cells_of" 1449 "Grid.cells_of" 1450 1451 582 4 3 923 true 924 (.ref 925) (.ref 926) (.ref 927) 1456 582 1457
noncomputable def o929 : Obj := ⟨(.type "function"), none, (.func (fdA (at2 75 11) "cells_of" "Grid.cells_of" 3 .none .none .none (.str "termcore.grid" 1334) none (.ref 928) .none 0)), #[]⟩
noncomputable def o932 : Obj := tpO #[(.str "self" 1462), (.str "row" 1463), (.str "column" 1464), (.str "cells" 1465), (.str "line" 1466), (.str "end" 1467), (.str "step" 1468), (.str "cell" 1469)]
noncomputable def o934 : Obj := ⟨.none, none, (.func (fdA (at2 75 12) "put_cells" "Grid.put_cells" 0 .none .none .none .none none .none .none 0)), #[]⟩
noncomputable def o935 : Obj := cdO "put_cells" 1459 "Grid.put_cells" 1460 1461 585 4 3 930 true 931 (.ref 932) (.ref 933) (.ref 934) 1470 585 1471
noncomputable def o936 : Obj := ⟨(.type "function"), none, (.func (fdA (at2 75 12) "put_cells" "Grid.put_cells" 3 .none .none .none (.str "termcore.grid" 1334) none (.ref 935) .none 0)), #[]⟩
noncomputable def o940 : Obj := tpO #[(.str "self" 1476), (.str "area" 1477), (.str "pen" 1478), (.str "is_selective" 1479), (.str "top" 1480), (.str "left" 1481), (.str "bottom" 1482), (.str "right" 1483), (.str "row" 1484)]
noncomputable def o942 : Obj := ⟨.none, none, (.func (fdA (at2 75 13) "erase_area" "Grid.erase_area" 0 .none .none .none .none none .none .none 0)), #[]⟩
noncomputable def o943 : Obj := cdO "erase_area" 1473 "Grid.erase_area" 1474 1475 596 4 3 938 true 939 (.ref 940) (.ref 941) (.ref 942) 1485 596 1486
noncomputable def o944 : Obj := ⟨(.type "function"), none, (.func (fdA (at2 75 13) "erase_area" "Grid.erase_area" 3 (.ref 937) .none .none (.str "termcore.grid" 1334) none (.ref 943) .none 0)), #[]⟩
noncomputable def o947 : Obj := tpO #[(.str "self" 1491), (.str "area" 1492), (.str "cell" 1493)]
noncomputable def o949 : Obj := ⟨.none, none, (.func (fdA (at2 75 14) "fill_area" "Grid.fill_area" 0 .none .none .none .none none .none .none 0)), #[]⟩
noncomputable def o950 : Obj := cdO "fill_area" 1488 "Grid.fill_area" 1489 1490 603 3 3 945 true 946 (.ref 947) (.ref 948) (.ref 949) 1494 603 1495
noncomputable def o951 : Obj := ⟨(.type "function"), none, (.func (fdA (at2 75 14) "fill_area" "Grid.fill_area" 3 .none .none .none (.str "termcore.grid" 1334) none (.ref 950) .none 0)), #[]⟩
noncomputable def o954 : Obj := tpO #[(.str "self" 1500), (.str "area" 1501), (.str "row" 1502), (.str "column" 1503)]
noncomputable def o956 : Obj := ⟨.none, none, (.func (fdA (at2 75 15) "copy_area" "Grid.copy_area" 0 .none .none .none .none none .none .none 0)), #[]⟩
noncomputable def o957 : Obj := cdO "copy_area" 1497 "Grid.copy_area" 1498 1499 606 4 3 952 true 953 (.ref 954) (.ref 955) (.ref 956) 1504 606 1505
noncomputable def o958 : Obj := ⟨(.type "function"), none, (.func (fdA (at2 75 15) "copy_area" "Grid.copy_area" 3 .none .none .none (.str "termcore.grid" 1334) none (.ref 957) .none 0)), #[]⟩
noncomputable def o961 : Obj := tpO #[(.str "self" 1510), (.str "area" 1511)]
noncomputable def o963 : Obj := ⟨.none, none, (.func (fdA (at2 75 16) "cells_in" "Grid.cells_in" 0 .none .none .none .none none .none .none 0)), #[]⟩
noncomputable def o964 : Obj := cdO "cells_in" 1507 "Grid.cells_in" 1508 1509 609 2 3 959 true 960 (.ref 961) (.ref 962) (.ref 963) 1512 609 1513
noncomputable def o965 : Obj := ⟨(.type "function"), none, (.func (fdA (at2 75 16) "cells_in" "Grid.cells_in" 3 .none .none .none (.str "termcore.grid" 1334) none (.ref 964) .none 0)), #[]⟩
noncomputable def o968 : Obj := tpO #[(.str "self" 1518)]
noncomputable def o970 : Obj := ⟨.none, none, (.func (fdA (at2 75 17) "copy" "Grid.copy" 0 .none .none .none .none none .none .none 0)), #[]⟩
noncomputable def o971 : Obj := cdO "copy" 1515 "Grid.copy" 1516 1517 612 1 3 966 true 967 (.ref 968) (.ref 969) (.ref 970) 1519 612 1520
noncomputable def o972 : Obj := ⟨(.type "function"), none, (.func (fdA (at2 75 17) "copy" "Grid.copy" 3 .none .none .none (.str "termcore.grid" 1334) none (.ref 971) .none 0)), #[]⟩
noncomputable def o975 : Obj := tpO #[(.str "self" 1525), (.str "other" 1526)]
noncomputable def o977 : Obj := ⟨.none, none, (.func (fdA (at2 75 18) "equals" "Grid.equals" 0 .none .none .none .none none .none .none 0)), #[]⟩
noncomputable def o978 : Obj := cdO "equals" 1522 "Grid.equals" 1523 1524 615 2 3 973 true 974 (.ref 975) (.ref 976) (.ref 977) 1527 615 1528
noncomputable def o979 : Obj := ⟨(.type "function"), none, (.func (fdA (at2 75 18) "equals" "Grid.equals" 3 .none .none .none (.str "termcore.grid" 1334) none (.ref 978) .none 0)), #[]⟩
noncomputable def o982 : Obj := ⟨.none, none, (.func (fdA (at2 75 19) "text" "Grid.text" 0 .none .none .none .none none .none .none 0)), #[]⟩
noncomputable def o983 : Obj := cdO "text" 1530 "Grid.text" 1531 1532 618 1 3 980 true 981 .none .none (.ref 982) 1533 618 1534
noncomputable def o984 : Obj := ⟨(.type "function"), none, (.func (fdA (at2 75 19) "text" "Grid.text" 3 .none .none .none (.str "termcore.grid" 1334) none (.ref 983) .none 0)), #[]⟩
noncomputable def o985 : Obj := tpO #[(.str "columns" 1536), (.str "lines" 1537), (.str "rows" 1538)]
noncomputable def o986 : Obj := ⟨(.type "dict"), none, (.dict #[sE P "__module__" 1343 (.str "termcore.grid" 1334), sE P "__firstlineno__" 1347 (.int 522 1346), sE P "__init__" 1353 (.ref 854), sE P "line" 1361 (.ref 861), sE P "whole_area" 1368 (.ref 868), sE P "is_wide" 1376 (.ref 875), sE P "fresh" 1382 (.ref 880), sE P "part_above" 1390 (.ref 887), sE P "scroll_up" 1407 (.ref 894), sE P "scroll_down" 1417 (.ref 901), sE P "unwrap" 1426 (.ref 908), sE P "insert_columns" 1437 (.ref 915), sE P "delete_columns" 1448 (.ref 922), sE P "cells_of" 1458 (.ref 929), sE P "put_cells" 1472 (.ref 936), sE P "erase_area" 1487 (.ref 944), sE P "fill_area" 1496 (.ref 951), sE P "copy_area" 1506 (.ref 958), sE P "cells_in" 1514 (.ref 965), sE P "copy" 1521 (.ref 972), sE P "equals" 1529 (.ref 979), sE P "text" 1535 (.ref 984), sE P "__static_attributes__" 1539 (.ref 985), sE P "__dict__" 1541 (.ref 988), sE P "__weakref__" 1543 (.ref 989), sE P "__doc__" 1544 .none] 4), #[]⟩
noncomputable def o987 : Obj := ⟨(.type "type"), none, (.cls ⟨"Grid", [(.type "object")], [(.ref 987), (.type "object")], 986, "Grid", true, [], [], false, none, false⟩), #[none, none, (some (.str "Grid" 1336)), (some (.str "Grid" 1344)), (some (.builtin "object.__new__")), (some (.bool true))]⟩
noncomputable def o988 : Obj := ⟨(.type "getset_descriptor"), none, (.fields #[(.str "__dict__" 1540), (.ref 987), (.builtin "function.__dict__"), (.builtin "function.__dict__#set")]), #[]⟩
noncomputable def o989 : Obj := ⟨(.type "getset_descriptor"), none, (.fields #[(.str "__weakref__" 1542), (.ref 987), (.builtin "ExceptionGroup.__weakref__"), .none]), #[]⟩
noncomputable def o990 : Obj := ⟨(.type "super"), none, (.fields #[(.ref 987), (.ref 987), (.ref 987)]), #[]⟩
noncomputable def o991 : Obj := ⟨(.type "builtin_function_or_method"), none, (.fields #[(.builtin "object.__init_subclass__"), (.ref 987)]), #[]⟩
noncomputable def o994 : Obj := tpO #[(.str "cell" 1550)]
noncomputable def o996 : Obj := ⟨.none, none, (.func (fdA (at1 76) "grid_cut" "grid_cut" 0 .none .none .none .none none .none .none 0)), #[]⟩
noncomputable def o997 : Obj := cdO "grid_cut" 1547 "grid_cut" 1548 1549 620 1 3 992 true 993 (.ref 994) (.ref 995) (.ref 996) 1551 620 1552
noncomputable def o998 : Obj := ⟨(.type "function"), none, (.func (fdA (at1 76) "grid_cut" "grid_cut" 3 .none .none .none (.str "termcore.grid" 1334) none (.ref 997) .none 0)), #[]⟩
noncomputable def o1001 : Obj := tpO #[(.str "cells" 1557), (.str "found" 1558)]
noncomputable def o1003 : Obj := ⟨.none, none, (.func (fdA (at1 77) "grid_mended" "grid_mended" 0 .none .none .none .none none .none .none 0)), #[]⟩
noncomputable def o1004 : Obj := cdO "grid_mended" 1554 "grid_mended" 1555 1556 622 1 3 999 true 1000 (.ref 1001) (.ref 1002) (.ref 1003) 1559 622 1560
noncomputable def o1005 : Obj := ⟨(.type "function"), none, (.func (fdA (at1 77) "grid_mended" "grid_mended" 3 .none .none .none (.str "termcore.grid" 1334) none (.ref 1004) .none 0)), #[]⟩
noncomputable def o1006 : Obj := tpO #[(.str "wide" 1564), (.str "top" 1565), (.str "bottom" 1566)]
noncomputable def o1009 : Obj := ⟨(.type "dict"), none, (.dict #[sE P "__module__" 1575 (.str "termcore.screen" 1562), sE P "__qualname__" 1577 (.str "Screen" 1576), sE P "__firstlineno__" 1579 (.int 631 1578), sE P "__init__" 1591 (.ref 1021), sE P "line" 1598 (.ref 1028), sE P "width_of_line" 1606 (.ref 1035), sE P "right_bound" 1614 (.ref 1042), sE P "left_bound" 1621 (.ref 1049), sE P "is_between_sides" 1628 (.ref 1056), sE P "is_whole" 1635 (.ref 1063), sE P "place" 1644 (.ref 1070), sE P "put_code" 1652 (.ref 1077), sE P "place_ahead" 1661 (.ref 1084), sE P "is_joined" 1669 (.ref 1091), sE P "join" 1683 (.ref 1098), sE P "put_sign" 1692 (.ref 1105), sE P "advance" 1702 (.ref 1112), sE P "wrap" 1712 (.ref 1119), sE P "repeat" 1720 (.ref 1126), sE P "scroll_up" 1730 (.ref 1133), sE P "scroll_down" 1738 (.ref 1140), sE P "index" 1745 (.ref 1147), sE P "reverse_index" 1752 (.ref 1154), sE P "keep_within_line" 1759 (.ref 1161), sE P "carriage_return" 1766 (.ref 1168), sE P "next_line" 1773 (.ref 1175), sE P "backspace" 1780 (.ref 1182), sE P "tab" 1789 (.ref 1190), sE P "back_tab" 1798 (.ref 1198), sE P "save_cursor" 1805 (.ref 1205), sE P "restore_cursor" 1812 (.ref 1212), sE P "home" 1819 (.ref 1219), sE P "set_margins" 1828 (.ref 1226), sE P "set_side_margins" 1837 (.ref 1233), sE P "line_size" 1845 (.ref 1240), sE P "align" 1852 (.ref 1247), sE P "soft_reset" 1859 (.ref 1254), sE P "full_reset" 1866 (.ref 1261), sE P "blank" 1873 (.ref 1268), sE P "__static_attributes__" 1887 (.ref 1269)] 40), #[]⟩
noncomputable def o1011 : Obj := ⟨.none, none, (.fields #[(.int 633 0), (.int 4 0), (.ref 1020), (.int 648 0), (.int 4 0), (.ref 1027), (.int 651 0), (.int 4 0), (.ref 1034), (.int 654 0), (.int 4 0), (.ref 1041), (.int 658 0), (.int 4 0), (.ref 1048), (.int 661 0), (.int 4 0), (.ref 1055), (.int 664 0), (.int 4 0), (.ref 1062), (.int 667 0), (.int 4 0), (.ref 1069), (.int 672 0), (.int 4 0), (.ref 1076), (.int 675 0), (.int 4 0), (.ref 1083), (.int 685 0), (.int 4 0), (.ref 1090), (.int 688 0), (.int 4 0), (.ref 1097), (.int 703 0), (.int 4 0), (.ref 1104), (.int 706 0), (.int 4 0), (.ref 1111), (.int 715 0), (.int 4 0), (.ref 1118), (.int 724 0), (.int 4 0), (.ref 1125), (.int 727 0), (.int 4 0), (.ref 1132), (.int 733 0), (.int 4 0), (.ref 1139), (.int 736 0), (.int 4 0), (.ref 1146), (.int 745 0), (.int 4 0), (.ref 1153), (.int 748 0), (.int 4 0), (.ref 1160), (.int 751 0), (.int 4 0), (.ref 1167), (.int 754 0), (.int 4 0), (.ref 1174), (.int 757 0), (.int 4 0), (.ref 1181), (.int 760 0), (.int 4 0), (.ref 1189), (.int 763 0), (.int 4 0), (.ref 1197), (.int 766 0), (.int 4 0), (.ref 1204), (.int 769 0), (.int 4 0), (.ref 1211), (.int 772 0), (.int 4 0), (.ref 1218), (.int 775 0), (.int 4 0), (.ref 1225), (.int 778 0), (.int 4 0), (.ref 1232), (.int 781 0), (.int 4 0), (.ref 1239), (.int 784 0), (.int 4 0), (.ref 1246), (.int 787 0), (.int 4 0), (.ref 1253), (.int 790 0), (.int 4 0), (.ref 1260), (.int 793 0), (.int 4 0), (.ref 1267)]), #[]⟩
noncomputable def o1012 : Obj := cdO "Screen" 1570 "Screen" 1571 1572 631 0 0 1010 false 1011 .none .none .none 1573 631 1574
noncomputable def o1013 : Obj := ⟨(.type "frame"), none, .plain, #[(some (.ref 1012)), (some (.ref 3)), (some (.ref 1009)), none, (some (.str "termcore.screen" 1562)), none, (some (.ref 0))]⟩
noncomputable def o1017 : Obj := tpO #[(.str "self" 1583), (.str "rows" 1584), (.str "columns" 1585), (.str "modes" 1586), (.str "widths" 1587), (.str "history" 1588)]
noncomputable def o1019 : Obj := ⟨.none, none, (.func (fdA (at2 80 0) "__init__" "Screen.__init__" 0 .none .none .none .none none .none .none 0)), #[]⟩
noncomputable def o1020 : Obj := cdO "__init__" 1580 "Screen.__init__" 1581 1582 633 6 3 1015 true 1016 (.ref 1017) (.ref 1018) (.ref 1019) 1589 633 1590
noncomputable def o1021 : Obj := ⟨(.type "function"), none, (.func (fdA (at2 80 0) "__init__" "Screen.__init__" 3 (.ref 1014) .none .none (.str "termcore.screen" 1562) none (.ref 1020) .none 0)), #[]⟩
noncomputable def o1024 : Obj := tpO #[(.str "self" 1595)]
noncomputable def o1026 : Obj := ⟨.none, none, (.func (fdA (at2 80 1) "line" "Screen.line" 0 .none .none .none .none none .none .none 0)), #[]⟩
noncomputable def o1027 : Obj := cdO "line" 1592 "Screen.line" 1593 1594 648 1 3 1022 true 1023 (.ref 1024) (.ref 1025) (.ref 1026) 1596 648 1597
noncomputable def o1028 : Obj := ⟨(.type "function"), none, (.func (fdA (at2 80 1) "line" "Screen.line" 3 .none .none .none (.str "termcore.screen" 1562) none (.ref 1027) .none 0)), #[]⟩
noncomputable def o1031 : Obj := tpO #[(.str "self" 1602), (.str "row" 1603)]
noncomputable def o1033 : Obj := ⟨.none, none, (.func (fdA (at2 80 2) "width_of_line" "Screen.width_of_line" 0 .none .none .none .none none .none .none 0)), #[]⟩
noncomputable def o1034 : Obj := cdO "width_of_line" 1599 "Screen.width_of_line" 1600 1601 651 2 3 1029 true 1030 (.ref 1031) (.ref 1032) (.ref 1033) 1604 651 1605
noncomputable def o1035 : Obj := ⟨(.type "function"), none, (.func (fdA (at2 80 2) "width_of_line" "Screen.width_of_line" 3 .none .none .none (.str "termcore.screen" 1562) none (.ref 1034) .none 0)), #[]⟩
noncomputable def o1038 : Obj := tpO #[(.str "self" 1610), (.str "end" 1611)]
noncomputable def o1040 : Obj := ⟨.none, none, (.func (fdA (at2 80 3) "right_bound" "Screen.right_bound" 0 .none .none .none .none none .none .none 0)), #[]⟩
noncomputable def o1041 : Obj := cdO "right_bound" 1607 "Screen.right_bound" 1608 1609 654 1 3 1036 true 1037 (.ref 1038) (.ref 1039) (.ref 1040) 1612 654 1613
noncomputable def o1042 : Obj := ⟨(.type "function"), none, (.func (fdA (at2 80 3) "right_bound" "Screen.right_bound" 3 .none .none .none (.str "termcore.screen" 1562) none (.ref 1041) .none 0)), #[]⟩
noncomputable def o1045 : Obj := tpO #[(.str "self" 1618)]
noncomputable def o1047 : Obj := ⟨.none, none, (.func (fdA (at2 80 4) "left_bound" "Screen.left_bound" 0 .none .none .none .none none .none .none 0)), #[]⟩
noncomputable def o1048 : Obj := cdO "left_bound" 1615 "Screen.left_bound" 1616 1617 658 1 3 1043 true 1044 (.ref 1045) (.ref 1046) (.ref 1047) 1619 658 1620
noncomputable def o1049 : Obj := ⟨(.type "function"), none, (.func (fdA (at2 80 4) "left_bound" "Screen.left_bound" 3 .none .none .none (.str "termcore.screen" 1562) none (.ref 1048) .none 0)), #[]⟩
noncomputable def o1052 : Obj := tpO #[(.str "self" 1625)]
noncomputable def o1054 : Obj := ⟨.none, none, (.func (fdA (at2 80 5) "is_between_sides" "Screen.is_between_sides" 0 .none .none .none .none none .none .none 0)), #[]⟩
noncomputable def o1055 : Obj := cdO "is_between_sides" 1622 "Screen.is_between_sides" 1623 1624 661 1 3 1050 true 1051 (.ref 1052) (.ref 1053) (.ref 1054) 1626 661 1627
noncomputable def o1056 : Obj := ⟨(.type "function"), none, (.func (fdA (at2 80 5) "is_between_sides" "Screen.is_between_sides" 3 .none .none .none (.str "termcore.screen" 1562) none (.ref 1055) .none 0)), #[]⟩
noncomputable def o1059 : Obj := tpO #[(.str "self" 1632)]
noncomputable def o1061 : Obj := ⟨.none, none, (.func (fdA (at2 80 6) "is_whole" "Screen.is_whole" 0 .none .none .none .none none .none .none 0)), #[]⟩
noncomputable def o1062 : Obj := cdO "is_whole" 1629 "Screen.is_whole" 1630 1631 664 1 3 1057 true 1058 (.ref 1059) (.ref 1060) (.ref 1061) 1633 664 1634
noncomputable def o1063 : Obj := ⟨(.type "function"), none, (.func (fdA (at2 80 6) "is_whole" "Screen.is_whole" 3 .none .none .none (.str "termcore.screen" 1562) none (.ref 1062) .none 0)), #[]⟩
noncomputable def o1066 : Obj := tpO #[(.str "self" 1639), (.str "row" 1640), (.str "column" 1641)]
noncomputable def o1068 : Obj := ⟨.none, none, (.func (fdA (at2 80 7) "place" "Screen.place" 0 .none .none .none .none none .none .none 0)), #[]⟩
noncomputable def o1069 : Obj := cdO "place" 1636 "Screen.place" 1637 1638 667 3 3 1064 true 1065 (.ref 1066) (.ref 1067) (.ref 1068) 1642 667 1643
noncomputable def o1070 : Obj := ⟨(.type "function"), none, (.func (fdA (at2 80 7) "place" "Screen.place" 3 .none .none .none (.str "termcore.screen" 1562) none (.ref 1069) .none 0)), #[]⟩
noncomputable def o1073 : Obj := tpO #[(.str "self" 1648), (.str "code" 1649)]
noncomputable def o1075 : Obj := ⟨.none, none, (.func (fdA (at2 80 8) "put_code" "Screen.put_code" 0 .none .none .none .none none .none .none 0)), #[]⟩
noncomputable def o1076 : Obj := cdO "put_code" 1645 "Screen.put_code" 1646 1647 672 2 3 1071 true 1072 (.ref 1073) (.ref 1074) (.ref 1075) 1650 672 1651
noncomputable def o1077 : Obj := ⟨(.type "function"), none, (.func (fdA (at2 80 8) "put_code" "Screen.put_code" 3 .none .none .none (.str "termcore.screen" 1562) none (.ref 1076) .none 0)), #[]⟩
noncomputable def o1080 : Obj := tpO #[(.str "self" 1656), (.str "column" 1657), (.str "cell" 1658)]
noncomputable def o1082 : Obj := ⟨.none, none, (.func (fdA (at2 80 9) "place_ahead" "Screen.place_ahead" 0 .none .none .none .none none .none .none 0)), #[]⟩
noncomputable def o1083 : Obj := cdO "place_ahead" 1653 "Screen.place_ahead" 1654 1655 675 1 3 1078 true 1079 (.ref 1080) (.ref 1081) (.ref 1082) 1659 675 1660
noncomputable def o1084 : Obj := ⟨(.type "function"), none, (.func (fdA (at2 80 9) "place_ahead" "Screen.place_ahead" 3 .none .none .none (.str "termcore.screen" 1562) none (.ref 1083) .none 0)), #[]⟩
noncomputable def o1087 : Obj := tpO #[(.str "self" 1665), (.str "code" 1666)]
noncomputable def o1089 : Obj := ⟨.none, none, (.func (fdA (at2 80 10) "is_joined" "Screen.is_joined" 0 .none .none .none .none none .none .none 0)), #[]⟩
noncomputable def o1090 : Obj := cdO "is_joined" 1662 "Screen.is_joined" 1663 1664 685 2 3 1085 true 1086 (.ref 1087) (.ref 1088) (.ref 1089) 1667 685 1668
noncomputable def o1091 : Obj := ⟨(.type "function"), none, (.func (fdA (at2 80 10) "is_joined" "Screen.is_joined" 3 .none .none .none (.str "termcore.screen" 1562) none (.ref 1090) .none 0)), #[]⟩
noncomputable def o1094 : Obj := tpO #[(.str "self" 1673), (.str "code" 1674), (.str "column" 1675), (.str "codes" 1676), (.str "width" 1677), (.str "pen" 1678), (.str "is_guarded" 1679), (.str "wish" 1680)]
noncomputable def o1096 : Obj := ⟨.none, none, (.func (fdA (at2 80 11) "join" "Screen.join" 0 .none .none .none .none none .none .none 0)), #[]⟩
noncomputable def o1097 : Obj := cdO "join" 1670 "Screen.join" 1671 1672 688 2 3 1092 true 1093 (.ref 1094) (.ref 1095) (.ref 1096) 1681 688 1682
noncomputable def o1098 : Obj := ⟨(.type "function"), none, (.func (fdA (at2 80 11) "join" "Screen.join" 3 .none .none .none (.str "termcore.screen" 1562) none (.ref 1097) .none 0)), #[]⟩
noncomputable def o1101 : Obj := tpO #[(.str "self" 1687), (.str "codes" 1688), (.str "width" 1689)]
noncomputable def o1103 : Obj := ⟨.none, none, (.func (fdA (at2 80 12) "put_sign" "Screen.put_sign" 0 .none .none .none .none none .none .none 0)), #[]⟩
noncomputable def o1104 : Obj := cdO "put_sign" 1684 "Screen.put_sign" 1685 1686 703 3 3 1099 true 1100 (.ref 1101) (.ref 1102) (.ref 1103) 1690 703 1691
noncomputable def o1105 : Obj := ⟨(.type "function"), none, (.func (fdA (at2 80 12) "put_sign" "Screen.put_sign" 3 .none .none .none (.str "termcore.screen" 1562) none (.ref 1104) .none 0)), #[]⟩
noncomputable def o1108 : Obj := tpO #[(.str "self" 1696), (.str "column" 1697), (.str "width" 1698), (.str "right" 1699)]
noncomputable def o1110 : Obj := ⟨.none, none, (.func (fdA (at2 80 13) "advance" "Screen.advance" 0 .none .none .none .none none .none .none 0)), #[]⟩
noncomputable def o1111 : Obj := cdO "advance" 1693 "Screen.advance" 1694 1695 706 3 3 1106 true 1107 (.ref 1108) (.ref 1109) (.ref 1110) 1700 706 1701
noncomputable def o1112 : Obj := ⟨(.type "function"), none, (.func (fdA (at2 80 13) "advance" "Screen.advance" 3 .none .none .none (.str "termcore.screen" 1562) none (.ref 1111) .none 0)), #[]⟩
noncomputable def o1115 : Obj := tpO #[(.str "self" 1706), (.str "left" 1707), (.str "row" 1708), (.str "is_wide" 1709)]
noncomputable def o1117 : Obj := ⟨.none, none, (.func (fdA (at2 80 14) "wrap" "Screen.wrap" 0 .none .none .none .none none .none .none 0)), #[]⟩
noncomputable def o1118 : Obj := cdO "wrap" 1703 "Screen.wrap" 1704 1705 715 1 3 1113 true 1114 (.ref 1115) (.ref 1116) (.ref 1117) 1710 715 1711
noncomputable def o1119 : Obj := ⟨(.type "function"), none, (.func (fdA (at2 80 14) "wrap" "Screen.wrap" 3 .none .none .none (.str "termcore.screen" 1562) none (.ref 1118) .none 0)), #[]⟩
noncomputable def o1122 : Obj := tpO #[(.str "self" 1716), (.str "many" 1717)]
noncomputable def o1124 : Obj := ⟨.none, none, (.func (fdA (at2 80 15) "repeat" "Screen.repeat" 0 .none .none .none .none none .none .none 0)), #[]⟩
noncomputable def o1125 : Obj := cdO "repeat" 1713 "Screen.repeat" 1714 1715 724 2 3 1120 true 1121 (.ref 1122) (.ref 1123) (.ref 1124) 1718 724 1719
noncomputable def o1126 : Obj := ⟨(.type "function"), none, (.func (fdA (at2 80 15) "repeat" "Screen.repeat" 3 .none .none .none (.str "termcore.screen" 1562) none (.ref 1125) .none 0)), #[]⟩
noncomputable def o1129 : Obj := tpO #[(.str "self" 1724), (.str "many" 1725), (.str "gone" 1726), (.str "line" 1727)]
noncomputable def o1131 : Obj := ⟨.none, none, (.func (fdA (at2 80 16) "scroll_up" "Screen.scroll_up" 0 .none .none .none .none none .none .none 0)), #[]⟩
noncomputable def o1132 : Obj := cdO "scroll_up" 1721 "Screen.scroll_up" 1722 1723 727 2 3 1127 true 1128 (.ref 1129) (.ref 1130) (.ref 1131) 1728 727 1729
noncomputable def o1133 : Obj := ⟨(.type "function"), none, (.func (fdA (at2 80 16) "scroll_up" "Screen.scroll_up" 3 .none .none .none (.str "termcore.screen" 1562) none (.ref 1132) .none 0)), #[]⟩
noncomputable def o1136 : Obj := tpO #[(.str "self" 1734), (.str "many" 1735)]
noncomputable def o1138 : Obj := ⟨.none, none, (.func (fdA (at2 80 17) "scroll_down" "Screen.scroll_down" 0 .none .none .none .none none .none .none 0)), #[]⟩
noncomputable def o1139 : Obj := cdO "scroll_down" 1731 "Screen.scroll_down" 1732 1733 733 2 3 1134 true 1135 (.ref 1136) (.ref 1137) (.ref 1138) 1736 733 1737
noncomputable def o1140 : Obj := ⟨(.type "function"), none, (.func (fdA (at2 80 17) "scroll_down" "Screen.scroll_down" 3 .none .none .none (.str "termcore.screen" 1562) none (.ref 1139) .none 0)), #[]⟩
noncomputable def o1143 : Obj := tpO #[(.str "self" 1742)]
noncomputable def o1145 : Obj := ⟨.none, none, (.func (fdA (at2 80 18) "index" "Screen.index" 0 .none .none .none .none none .none .none 0)), #[]⟩
noncomputable def o1146 : Obj := cdO "index" 1739 "Screen.index" 1740 1741 736 1 3 1141 true 1142 (.ref 1143) (.ref 1144) (.ref 1145) 1743 736 1744
noncomputable def o1147 : Obj := ⟨(.type "function"), none, (.func (fdA (at2 80 18) "index" "Screen.index" 3 .none .none .none (.str "termcore.screen" 1562) none (.ref 1146) .none 0)), #[]⟩
noncomputable def o1150 : Obj := tpO #[(.str "self" 1749)]
noncomputable def o1152 : Obj := ⟨.none, none, (.func (fdA (at2 80 19) "reverse_index" "Screen.reverse_index" 0 .none .none .none .none none .none .none 0)), #[]⟩
noncomputable def o1153 : Obj := cdO "reverse_index" 1746 "Screen.reverse_index" 1747 1748 745 1 3 1148 true 1149 (.ref 1150) (.ref 1151) (.ref 1152) 1750 745 1751
noncomputable def o1154 : Obj := ⟨(.type "function"), none, (.func (fdA (at2 80 19) "reverse_index" "Screen.reverse_index" 3 .none .none .none (.str "termcore.screen" 1562) none (.ref 1153) .none 0)), #[]⟩
noncomputable def o1157 : Obj := tpO #[(.str "self" 1756)]
noncomputable def o1159 : Obj := ⟨.none, none, (.func (fdA (at2 80 20) "keep_within_line" "Screen.keep_within_line" 0 .none .none .none .none none .none .none 0)), #[]⟩
noncomputable def o1160 : Obj := cdO "keep_within_line" 1753 "Screen.keep_within_line" 1754 1755 748 1 3 1155 true 1156 (.ref 1157) (.ref 1158) (.ref 1159) 1757 748 1758
noncomputable def o1161 : Obj := ⟨(.type "function"), none, (.func (fdA (at2 80 20) "keep_within_line" "Screen.keep_within_line" 3 .none .none .none (.str "termcore.screen" 1562) none (.ref 1160) .none 0)), #[]⟩
noncomputable def o1164 : Obj := tpO #[(.str "self" 1763)]
noncomputable def o1166 : Obj := ⟨.none, none, (.func (fdA (at2 80 21) "carriage_return" "Screen.carriage_return" 0 .none .none .none .none none .none .none 0)), #[]⟩
noncomputable def o1167 : Obj := cdO "carriage_return" 1760 "Screen.carriage_return" 1761 1762 751 1 3 1162 true 1163 (.ref 1164) (.ref 1165) (.ref 1166) 1764 751 1765
noncomputable def o1168 : Obj := ⟨(.type "function"), none, (.func (fdA (at2 80 21) "carriage_return" "Screen.carriage_return" 3 .none .none .none (.str "termcore.screen" 1562) none (.ref 1167) .none 0)), #[]⟩
noncomputable def o1171 : Obj := tpO #[(.str "self" 1770)]
noncomputable def o1173 : Obj := ⟨.none, none, (.func (fdA (at2 80 22) "next_line" "Screen.next_line" 0 .none .none .none .none none .none .none 0)), #[]⟩
noncomputable def o1174 : Obj := cdO "next_line" 1767 "Screen.next_line" 1768 1769 754 1 3 1169 true 1170 (.ref 1171) (.ref 1172) (.ref 1173) 1771 754 1772
noncomputable def o1175 : Obj := ⟨(.type "function"), none, (.func (fdA (at2 80 22) "next_line" "Screen.next_line" 3 .none .none .none (.str "termcore.screen" 1562) none (.ref 1174) .none 0)), #[]⟩
noncomputable def o1178 : Obj := tpO #[(.str "self" 1777)]
noncomputable def o1180 : Obj := ⟨.none, none, (.func (fdA (at2 80 23) "backspace" "Screen.backspace" 0 .none .none .none .none none .none .none 0)), #[]⟩
noncomputable def o1181 : Obj := cdO "backspace" 1774 "Screen.backspace" 1775 1776 757 1 3 1176 true 1177 (.ref 1178) (.ref 1179) (.ref 1180) 1778 757 1779
noncomputable def o1182 : Obj := ⟨(.type "function"), none, (.func (fdA (at2 80 23) "backspace" "Screen.backspace" 3 .none .none .none (.str "termcore.screen" 1562) none (.ref 1181) .none 0)), #[]⟩
noncomputable def o1183 : Obj := tpO #[(.int 1 1781)]
noncomputable def o1186 : Obj := tpO #[(.str "self" 1785), (.str "many" 1786)]
noncomputable def o1188 : Obj := ⟨.none, none, (.func (fdA (at2 80 24) "tab" "Screen.tab" 0 .none .none .none .none none .none .none 0)), #[]⟩
noncomputable def o1189 : Obj := cdO "tab" 1782 "Screen.tab" 1783 1784 760 2 3 1184 true 1185 (.ref 1186) (.ref 1187) (.ref 1188) 1787 760 1788
noncomputable def o1190 : Obj := ⟨(.type "function"), none, (.func (fdA (at2 80 24) "tab" "Screen.tab" 3 (.ref 1183) .none .none (.str "termcore.screen" 1562) none (.ref 1189) .none 0)), #[]⟩
noncomputable def o1191 : Obj := tpO #[(.int 1 1790)]
noncomputable def o1194 : Obj := tpO #[(.str "self" 1794), (.str "many" 1795)]
noncomputable def o1196 : Obj := ⟨.none, none, (.func (fdA (at2 80 25) "back_tab" "Screen.back_tab" 0 .none .none .none .none none .none .none 0)), #[]⟩
noncomputable def o1197 : Obj := cdO "back_tab" 1791 "Screen.back_tab" 1792 1793 763 2 3 1192 true 1193 (.ref 1194) (.ref 1195) (.ref 1196) 1796 763 1797
noncomputable def o1198 : Obj := ⟨(.type "function"), none, (.func (fdA (at2 80 25) "back_tab" "Screen.back_tab" 3 (.ref 1191) .none .none (.str "termcore.screen" 1562) none (.ref 1197) .none 0)), #[]⟩
noncomputable def o1201 : Obj := tpO #[(.str "self" 1802)]
noncomputable def o1203 : Obj := ⟨.none, none, (.func (fdA (at2 80 26) "save_cursor" "Screen.save_cursor" 0 .none .none .none .none none .none .none 0)), #[]⟩
noncomputable def o1204 : Obj := cdO "save_cursor" 1799 "Screen.save_cursor" 1800 1801 766 1 3 1199 true 1200 (.ref 1201) (.ref 1202) (.ref 1203) 1803 766 1804
noncomputable def o1205 : Obj := ⟨(.type "function"), none, (.func (fdA (at2 80 26) "save_cursor" "Screen.save_cursor" 3 .none .none .none (.str "termcore.screen" 1562) none (.ref 1204) .none 0)), #[]⟩
noncomputable def o1208 : Obj := tpO #[(.str "self" 1809)]
noncomputable def o1210 : Obj := ⟨.none, none, (.func (fdA (at2 80 27) "restore_cursor" "Screen.restore_cursor" 0 .none .none .none .none none .none .none 0)), #[]⟩
noncomputable def o1211 : Obj := cdO "restore_cursor" 1806 "Screen.restore_cursor" 1807 1808 769 1 3 1206 true 1207 (.ref 1208) (.ref 1209) (.ref 1210) 1810 769 1811
noncomputable def o1212 : Obj := ⟨(.type "function"), none, (.func (fdA (at2 80 27) "restore_cursor" "Screen.restore_cursor" 3 .none .none .none (.str "termcore.screen" 1562) none (.ref 1211) .none 0)), #[]⟩
noncomputable def o1215 : Obj := tpO #[(.str "self" 1816)]
noncomputable def o1217 : Obj := ⟨.none, none, (.func (fdA (at2 80 28) "home" "Screen.home" 0 .none .none .none .none none .none .none 0)), #[]⟩
noncomputable def o1218 : Obj := cdO "home" 1813 "Screen.home" 1814 1815 772 1 3 1213 true 1214 (.ref 1215) (.ref 1216) (.ref 1217) 1817 772 1818
noncomputable def o1219 : Obj := ⟨(.type "function"), none, (.func (fdA (at2 80 28) "home" "Screen.home" 3 .none .none .none (.str "termcore.screen" 1562) none (.ref 1218) .none 0)), #[]⟩
noncomputable def o1222 : Obj := tpO #[(.str "self" 1823), (.str "top" 1824), (.str "bottom" 1825)]
noncomputable def o1224 : Obj := ⟨.none, none, (.func (fdA (at2 80 29) "set_margins" "Screen.set_margins" 0 .none .none .none .none none .none .none 0)), #[]⟩
noncomputable def o1225 : Obj := cdO "set_margins" 1820 "Screen.set_margins" 1821 1822 775 3 3 1220 true 1221 (.ref 1222) (.ref 1223) (.ref 1224) 1826 775 1827
noncomputable def o1226 : Obj := ⟨(.type "function"), none, (.func (fdA (at2 80 29) "set_margins" "Screen.set_margins" 3 .none .none .none (.str "termcore.screen" 1562) none (.ref 1225) .none 0)), #[]⟩
noncomputable def o1229 : Obj := tpO #[(.str "self" 1832), (.str "left" 1833), (.str "right" 1834)]
noncomputable def o1231 : Obj := ⟨.none, none, (.func (fdA (at2 80 30) "set_side_margins" "Screen.set_side_margins" 0 .none .none .none .none none .none .none 0)), #[]⟩
noncomputable def o1232 : Obj := cdO "set_side_margins" 1829 "Screen.set_side_margins" 1830 1831 778 3 3 1227 true 1228 (.ref 1229) (.ref 1230) (.ref 1231) 1835 778 1836
noncomputable def o1233 : Obj := ⟨(.type "function"), none, (.func (fdA (at2 80 30) "set_side_margins" "Screen.set_side_margins" 3 .none .none .none (.str "termcore.screen" 1562) none (.ref 1232) .none 0)), #[]⟩
noncomputable def o1236 : Obj := tpO #[(.str "self" 1841), (.str "word" 1842)]
noncomputable def o1238 : Obj := ⟨.none, none, (.func (fdA (at2 80 31) "line_size" "Screen.line_size" 0 .none .none .none .none none .none .none 0)), #[]⟩
noncomputable def o1239 : Obj := cdO "line_size" 1838 "Screen.line_size" 1839 1840 781 2 3 1234 true 1235 (.ref 1236) (.ref 1237) (.ref 1238) 1843 781 1844
noncomputable def o1240 : Obj := ⟨(.type "function"), none, (.func (fdA (at2 80 31) "line_size" "Screen.line_size" 3 .none .none .none (.str "termcore.screen" 1562) none (.ref 1239) .none 0)), #[]⟩
noncomputable def o1243 : Obj := tpO #[(.str "self" 1849)]
noncomputable def o1245 : Obj := ⟨.none, none, (.func (fdA (at2 80 32) "align" "Screen.align" 0 .none .none .none .none none .none .none 0)), #[]⟩
noncomputable def o1246 : Obj := cdO "align" 1846 "Screen.align" 1847 1848 784 1 3 1241 true 1242 (.ref 1243) (.ref 1244) (.ref 1245) 1850 784 1851
noncomputable def o1247 : Obj := ⟨(.type "function"), none, (.func (fdA (at2 80 32) "align" "Screen.align" 3 .none .none .none (.str "termcore.screen" 1562) none (.ref 1246) .none 0)), #[]⟩
noncomputable def o1250 : Obj := tpO #[(.str "self" 1856)]
noncomputable def o1252 : Obj := ⟨.none, none, (.func (fdA (at2 80 33) "soft_reset" "Screen.soft_reset" 0 .none .none .none .none none .none .none 0)), #[]⟩
noncomputable def o1253 : Obj := cdO "soft_reset" 1853 "Screen.soft_reset" 1854 1855 787 1 3 1248 true 1249 (.ref 1250) (.ref 1251) (.ref 1252) 1857 787 1858
noncomputable def o1254 : Obj := ⟨(.type "function"), none, (.func (fdA (at2 80 33) "soft_reset" "Screen.soft_reset" 3 .none .none .none (.str "termcore.screen" 1562) none (.ref 1253) .none 0)), #[]⟩
noncomputable def o1257 : Obj := tpO #[(.str "self" 1863)]
noncomputable def o1259 : Obj := ⟨.none, none, (.func (fdA (at2 80 34) "full_reset" "Screen.full_reset" 0 .none .none .none .none none .none .none 0)), #[]⟩
noncomputable def o1260 : Obj := cdO "full_reset" 1860 "Screen.full_reset" 1861 1862 790 1 3 1255 true 1256 (.ref 1257) (.ref 1258) (.ref 1259) 1864 790 1865
noncomputable def o1261 : Obj := ⟨(.type "function"), none, (.func (fdA (at2 80 34) "full_reset" "Screen.full_reset" 3 .none .none .none (.str "termcore.screen" 1562) none (.ref 1260) .none 0)), #[]⟩
noncomputable def o1264 : Obj := tpO #[(.str "self" 1870)]
noncomputable def o1266 : Obj := ⟨.none, none, (.func (fdA (at2 80 35) "blank" "Screen.blank" 0 .none .none .none .none none .none .none 0)), #[]⟩
noncomputable def o1267 : Obj := cdO "blank" 1867 "Screen.blank" 1868 1869 793 1 3 1262 true 1263 (.ref 1264) (.ref 1265) (.ref 1266) 1871 793 1872
noncomputable def o1268 : Obj := ⟨(.type "function"), none, (.func (fdA (at2 80 35) "blank" "Screen.blank" 3 .none .none .none (.str "termcore.screen" 1562) none (.ref 1267) .none 0)), #[]⟩
noncomputable def o1269 : Obj := tpO #[(.str "charsets" 1874), (.str "columns" 1875), (.str "cursor" 1876), (.str "grid" 1877), (.str "has_right" 1878), (.str "history" 1879), (.str "last" 1880), (.str "margins" 1881), (.str "modes" 1882), (.str "rows" 1883), (.str "saved" 1884), (.str "tabs" 1885), (.str "widths" 1886)]
noncomputable def o1270 : Obj := ⟨(.type "dict"), none, (.dict #[sE P "__module__" 1575 (.str "termcore.screen" 1562), sE P "__firstlineno__" 1579 (.int 631 1578), sE P "__init__" 1591 (.ref 1021), sE P "line" 1598 (.ref 1028), sE P "width_of_line" 1606 (.ref 1035), sE P "right_bound" 1614 (.ref 1042), sE P "left_bound" 1621 (.ref 1049), sE P "is_between_sides" 1628 (.ref 1056), sE P "is_whole" 1635 (.ref 1063), sE P "place" 1644 (.ref 1070), sE P "put_code" 1652 (.ref 1077), sE P "place_ahead" 1661 (.ref 1084), sE P "is_joined" 1669 (.ref 1091), sE P "join" 1683 (.ref 1098), sE P "put_sign" 1692 (.ref 1105), sE P "advance" 1702 (.ref 1112), sE P "wrap" 1712 (.ref 1119), sE P "repeat" 1720 (.ref 1126), sE P "scroll_up" 1730 (.ref 1133), sE P "scroll_down" 1738 (.ref 1140), sE P "index" 1745 (.ref 1147), sE P "reverse_index" 1752 (.ref 1154), sE P "keep_within_line" 1759 (.ref 1161), sE P "carriage_return" 1766 (.ref 1168), sE P "next_line" 1773 (.ref 1175), sE P "backspace" 1780 (.ref 1182), sE P "tab" 1789 (.ref 1190), sE P "back_tab" 1798 (.ref 1198), sE P "save_cursor" 1805 (.ref 1205), sE P "restore_cursor" 1812 (.ref 1212), sE P "home" 1819 (.ref 1219), sE P "set_margins" 1828 (.ref 1226), sE P "set_side_margins" 1837 (.ref 1233), sE P "line_size" 1845 (.ref 1240), sE P "align" 1852 (.ref 1247), sE P "soft_reset" 1859 (.ref 1254), sE P "full_reset" 1866 (.ref 1261), sE P "blank" 1873 (.ref 1268), sE P "__static_attributes__" 1887 (.ref 1269), sE P "__dict__" 1889 (.ref 1272), sE P "__weakref__" 1891 (.ref 1273), sE P "__doc__" 1892 .none] 4), #[]⟩
noncomputable def o1271 : Obj := ⟨(.type "type"), none, (.cls ⟨"Screen", [(.type "object")], [(.ref 1271), (.type "object")], 1270, "Screen", true, [], [], false, none, false⟩), #[none, none, (some (.str "Screen" 1568)), (some (.str "Screen" 1576)), (some (.builtin "object.__new__")), (some (.bool true))]⟩
noncomputable def o1272 : Obj := ⟨(.type "getset_descriptor"), none, (.fields #[(.str "__dict__" 1888), (.ref 1271), (.builtin "function.__dict__"), (.builtin "function.__dict__#set")]), #[]⟩
noncomputable def o1273 : Obj := ⟨(.type "getset_descriptor"), none, (.fields #[(.str "__weakref__" 1890), (.ref 1271), (.builtin "ExceptionGroup.__weakref__"), .none]), #[]⟩
noncomputable def o1274 : Obj := ⟨(.type "super"), none, (.fields #[(.ref 1271), (.ref 1271), (.ref 1271)]), #[]⟩
noncomputable def o1275 : Obj := ⟨(.type "builtin_function_or_method"), none, (.fields #[(.builtin "object.__init_subclass__"), (.ref 1271)]), #[]⟩
noncomputable def o1278 : Obj := ⟨.none, none, (.func (fdA (at1 82) "_law_deck" "_law_deck" 0 .none .none .none .none none .none .none 0)), #[]⟩
noncomputable def o1279 : Obj := cdO "_law_deck" 1897 "_law_deck" 1898 1899 796 1 3 1276 true 1277 .none .none (.ref 1278) 1900 796 1901
noncomputable def o1280 : Obj := ⟨(.type "function"), none, (.func (fdA (at1 82) "_law_deck" "_law_deck" 3 .none .none .none (.str "law_og0294_01" 1895) none (.ref 1279) .none 0)), #[]⟩
noncomputable def o1283 : Obj := tpO #[(.str "deck" 1906), (.str "below" 1907), (.str "figure" 1908), (.str "cell" 1909)]
noncomputable def o1285 : Obj := ⟨.none, none, (.func (fdA (at1 83) "_law_draw" "_law_draw" 0 .none .none .none .none none .none .none 0)), #[]⟩
noncomputable def o1286 : Obj := cdO "_law_draw" 1903 "_law_draw" 1904 1905 801 2 3 1281 true 1282 (.ref 1283) (.ref 1284) (.ref 1285) 1910 801 1911
noncomputable def o1287 : Obj := ⟨(.type "function"), none, (.func (fdA (at1 83) "_law_draw" "_law_draw" 3 .none .none .none (.str "law_og0294_01" 1895) none (.ref 1286) .none 0)), #[]⟩
noncomputable def o1290 : Obj := tpO #[(.str "deck" 1916), (.str "some" 1917)]
noncomputable def o1292 : Obj := ⟨.none, none, (.func (fdA (at1 84) "_law_pick" "_law_pick" 0 .none .none .none .none none .none .none 0)), #[]⟩
noncomputable def o1293 : Obj := cdO "_law_pick" 1913 "_law_pick" 1914 1915 813 2 3 1288 true 1289 (.ref 1290) (.ref 1291) (.ref 1292) 1918 813 1919
noncomputable def o1294 : Obj := ⟨(.type "function"), none, (.func (fdA (at1 84) "_law_pick" "_law_pick" 3 .none .none .none (.str "law_og0294_01" 1895) none (.ref 1293) .none 0)), #[]⟩
noncomputable def o1297 : Obj := ⟨.none, none, (.func (fdA (at1 85) "_law_screen" "_law_screen" 0 .none .none .none .none none .none .none 0)), #[]⟩
noncomputable def o1298 : Obj := cdO "_law_screen" 1921 "_law_screen" 1922 1923 815 3 3 1295 true 1296 .none .none (.ref 1297) 1924 815 1925
noncomputable def o1299 : Obj := ⟨(.type "function"), none, (.func (fdA (at1 85) "_law_screen" "_law_screen" 3 .none .none .none (.str "law_og0294_01" 1895) none (.ref 1298) .none 0)), #[]⟩
noncomputable def o1302 : Obj := tpO #[(.str "screen" 1930), (.str "cursor" 1931), (.str "sets" 1932), (.str "found" 1933)]
noncomputable def o1304 : Obj := ⟨.none, none, (.func (fdA (at1 86) "_law_state" "_law_state" 0 .none .none .none .none none .none .none 0)), #[]⟩
noncomputable def o1305 : Obj := cdO "_law_state" 1927 "_law_state" 1928 1929 833 1 3 1300 true 1301 (.ref 1302) (.ref 1303) (.ref 1304) 1934 833 1935
noncomputable def o1306 : Obj := ⟨(.type "function"), none, (.func (fdA (at1 86) "_law_state" "_law_state" 3 .none .none .none (.str "law_og0294_01" 1895) none (.ref 1305) .none 0)), #[]⟩
noncomputable def o1309 : Obj := ⟨.none, none, (.func (fdA (at1 87) "_law_bits" "_law_bits" 0 .none .none .none .none none .none .none 0)), #[]⟩
noncomputable def o1310 : Obj := cdO "_law_bits" 1937 "_law_bits" 1938 1939 837 1 3 1307 true 1308 .none .none (.ref 1309) 1940 837 1941
noncomputable def o1311 : Obj := ⟨(.type "function"), none, (.func (fdA (at1 87) "_law_bits" "_law_bits" 3 .none .none .none (.str "law_og0294_01" 1895) none (.ref 1310) .none 0)), #[]⟩
noncomputable def o1314 : Obj := ⟨.none, none, (.func (fdA (at1 88) "_law_decimal" "_law_decimal" 0 .none .none .none .none none .none .none 0)), #[]⟩
noncomputable def o1315 : Obj := cdO "_law_decimal" 1943 "_law_decimal" 1944 1945 839 1 3 1312 true 1313 .none .none (.ref 1314) 1946 839 1947
noncomputable def o1316 : Obj := ⟨(.type "function"), none, (.func (fdA (at1 88) "_law_decimal" "_law_decimal" 3 .none .none .none (.str "law_og0294_01" 1895) none (.ref 1315) .none 0)), #[]⟩
noncomputable def o1319 : Obj := ⟨.none, none, (.func (fdA (at1 89) "_law_fields" "_law_fields" 0 .none .none .none .none none .none .none 0)), #[]⟩
noncomputable def o1320 : Obj := cdO "_law_fields" 1949 "_law_fields" 1950 1951 841 1 3 1317 true 1318 .none .none (.ref 1319) 1952 841 1953
noncomputable def o1321 : Obj := ⟨(.type "function"), none, (.func (fdA (at1 89) "_law_fields" "_law_fields" 3 .none .none .none (.str "law_og0294_01" 1895) none (.ref 1320) .none 0)), #[]⟩
noncomputable def o1324 : Obj := tpO #[(.str "near" 1958), (.str "far" 1959), (.str "rows" 1960), (.str "columns" 1961), (.str "flags" 1962), (.str "kind" 1963), (.str "wanted" 1964), (.str "bit" 1965), (.str "pen" 1966), (.str "found" 1967)]
noncomputable def o1326 : Obj := ⟨.none, none, (.func (fdA (at1 90) "_law_put" "_law_put" 0 .none .none .none .none none .none .none 0)), #[]⟩
noncomputable def o1327 : Obj := cdO "_law_put" 1955 "_law_put" 1956 1957 848 4 3 1322 true 1323 (.ref 1324) (.ref 1325) (.ref 1326) 1968 848 1969
noncomputable def o1328 : Obj := ⟨(.type "function"), none, (.func (fdA (at1 90) "_law_put" "_law_put" 3 .none .none .none (.str "law_og0294_01" 1895) none (.ref 1327) .none 0)), #[]⟩
noncomputable def o1331 : Obj := tpO #[(.str "deck" 1974), (.str "fields" 1975), (.str "way" 1976), (.str "found" 1977), (.str "at" 1978)]
noncomputable def o1333 : Obj := ⟨.none, none, (.func (fdA (at1 91) "_law_spoilt" "_law_spoilt" 0 .none .none .none .none none .none .none 0)), #[]⟩
noncomputable def o1334 : Obj := cdO "_law_spoilt" 1971 "_law_spoilt" 1972 1973 857 2 3 1329 true 1330 (.ref 1331) (.ref 1332) (.ref 1333) 1979 857 1980
noncomputable def o1335 : Obj := ⟨(.type "function"), none, (.func (fdA (at1 91) "_law_spoilt" "_law_spoilt" 3 .none .none .none (.str "law_og0294_01" 1895) none (.ref 1334) .none 0)), #[]⟩
noncomputable def o1338 : Obj := ⟨.none, none, (.func (fdA (at1 92) "_law_tabs_right" "_law_tabs_right" 0 .none .none .none .none none .none .none 0)), #[]⟩
noncomputable def o1339 : Obj := cdO "_law_tabs_right" 1982 "_law_tabs_right" 1983 1984 877 2 3 1336 true 1337 .none .none (.ref 1338) 1985 877 1986
noncomputable def o1340 : Obj := ⟨(.type "function"), none, (.func (fdA (at1 92) "_law_tabs_right" "_law_tabs_right" 3 .none .none .none (.str "law_og0294_01" 1895) none (.ref 1339) .none 0)), #[]⟩
noncomputable def o1343 : Obj := tpO #[(.str "script" 1991), (.str "deck" 1992), (.str "one" 1993), (.str "other" 1994), (.str "near" 1995), (.str "far" 1996), (.str "fields" 1997)]
noncomputable def o1345 : Obj := ⟨.none, none, (.func (fdA (at1 93) "law" "law" 0 .none .none .none .none none .none .none 0)), #[]⟩
noncomputable def o1346 : Obj := cdO "law" 1988 "law" 1989 1990 886 1 3 1341 true 1342 (.ref 1343) (.ref 1344) (.ref 1345) 1998 886 1999
noncomputable def o1347 : Obj := ⟨(.type "function"), none, (.func (fdA (at1 93) "law" "law" 3 .none .none .none (.str "law_og0294_01" 1895) none (.ref 1346) .none 0)), #[]⟩
end
noncomputable def s12 (P : Params) : Obj := ⟨.none, none, (.fields #[]), #[]⟩
noncomputable def trF (P : Params) : BT := (.node (boot_o_0 P) (.node (boot_o_1 P) (.node (o3 P) (.node (boot_o_7 P) (.node o11 (.node o11 (.node o11 (.node o127 (.node o255 (.node o511 (.node o16 .nil .nil) .nil) (.node o767 (.node o1279 .nil .nil) .nil)) (.node o11 (.node o639 (.node o11 .nil .nil) .nil) (.node o11 .nil .nil))) (.node o191 (.node o11 (.node o575 (.node o1087 .nil .nil) .nil) (.node o831 (.node o1343 .nil .nil) .nil)) (.node o24 (.node o11 (.node o1215 .nil .nil) .nil) (.node o11 .nil .nil)))) (.node o95 (.node o159 (.node o287 (.node o543 (.node o1055 .nil .nil) .nil) (.node o799 (.node o1311 .nil .nil) .nil)) (.node o415 (.node o671 (.node o1183 .nil .nil) .nil) (.node o927 .nil .nil))) (.node (o223 P) (.node o351 (.node o11 (.node o1119 .nil .nil) .nil) (.node o16 .nil .nil)) (.node o479 (.node o735 (.node o1247 .nil .nil) .nil) (.node o991 .nil .nil))))) (.node o11 (.node o79 (.node o143 (.node o271 (.node o527 (.node o11 .nil .nil) .nil) (.node o783 (.node o11 .nil .nil) .nil)) (.node (o399 P) (.node o655 (.node o1167 .nil .nil) .nil) (.node o911 .nil .nil))) (.node o11 (.node o335 (.node o591 (.node o1103 .nil .nil) .nil) (.node o847 .nil .nil)) (.node o11 (.node o719 (.node o1231 .nil .nil) .nil) (.node o975 .nil .nil)))) (.node o111 (.node o11 (.node o303 (.node o16 (.node o11 .nil .nil) .nil) (.node o11 (.node o1327 .nil .nil) .nil)) (.node o431 (.node o16 (.node o11 .nil .nil) .nil) (.node o943 .nil .nil))) (.node o239 (.node o367 (.node o623 (.node o16 .nil .nil) .nil) (.node o879 .nil .nil)) (.node o11 (.node o16 (.node o16 .nil .nil) .nil) (.node o11 .nil .nil)))))) (.node o23 (.node (o39 P) (.node o16 (.node o16 (.node o11 (.node o11 (.node o1031 .nil .nil) .nil) (.node o11 (.node o1287 .nil .nil) .nil)) (.node (o391 P) (.node o647 (.node o1159 .nil .nil) .nil) (.node o16 .nil .nil))) (.node o199 (.node o16 (.node o583 (.node o11 .nil .nil) .nil) (.node o839 .nil .nil)) (.node o455 (.node o711 (.node o11 .nil .nil) .nil) (.node o16 .nil .nil)))) (.node o103 (.node o167 (.node o295 (.node o11 (.node o1063 .nil .nil) .nil) (.node o807 (.node o1319 .nil .nil) .nil)) (.node o423 (.node o11 (.node o1191 .nil .nil) .nil) (.node o935 .nil .nil))) (.node o11 (.node o359 (.node o16 (.node o11 .nil .nil) .nil) (.node o871 .nil .nil)) (.node o487 (.node o11 (.node o11 .nil .nil) .nil) (.node o11 .nil .nil))))) (.node o55 (.node o11 (.node o151 (.node o11 (.node o535 (.node o1047 .nil .nil) .nil) (.node o791 (.node o11 .nil .nil) .nil)) (.node o11 (.node o663 (.node o1175 .nil .nil) .nil) (.node o11 .nil .nil))) (.node o16 (.node o11 (.node o599 (.node o1111 .nil .nil) .nil) (.node o11 .nil .nil)) (.node o471 (.node o727 (.node o1239 .nil .nil) .nil) (.node o983 .nil .nil)))) (.node o119 (.node o16 (.node o30 (.node o567 (.node o16 .nil .nil) .nil) (.node o16 (.node o1335 .nil .nil) .nil)) (.node o439 (.node o695 (.node o16 .nil .nil) .nil) (.node o951 .nil .nil))) (.node o247 (.node o375 (.node o11 (.node o1143 .nil .nil) .nil) (.node o887 .nil .nil)) (.node o16 (.node o759 (.node o1271 .nil .nil) .nil) (.node o11 .nil .nil))))))) (.node o11 (.node o19 (.node o35 (.node o67 (.node o131 (.node o11 (.node o515 (.node o1027 .nil .nil) .nil) (.node o771 (.node o1283 .nil .nil) .nil)) (.node o387 (.node o16 (.node o11 .nil .nil) .nil) (.node o899 .nil .nil))) (.node o195 (.node o323 (.node o11 (.node o1091 .nil .nil) .nil) (.node o835 (.node o1347 .nil .nil) .nil)) (.node o451 (.node o11 (.node o1219 .nil .nil) .nil) (.node o963 .nil .nil)))) (.node o16 (.node o163 (.node o16 (.node o11 (.node o1059 .nil .nil) .nil) (.node o11 (.node o1315 .nil .nil) .nil)) (.node o16 (.node o675 (.node o11 .nil .nil) .nil) (.node o16 .nil .nil))) (.node o227 (.node o16 (.node o611 (.node o11 .nil .nil) .nil) (.node o867 .nil .nil)) (.node o483 (.node o11 (.node o11 .nil .nil) .nil) (.node o11 .nil .nil))))) (.node o11 (.node o83 (.node o16 (.node o275 (.node o16 (.node o11 .nil .nil) .nil) (.node o16 (.node o1299 .nil .nil) .nil)) (.node o403 (.node o659 (.node o1171 .nil .nil) .nil) (.node o915 .nil .nil))) (.node o211 (.node o339 (.node o595 (.node o16 .nil .nil) .nil) (.node o16 .nil .nil)) (.node o11 (.node o723 (.node o16 .nil .nil) .nil) (.node o979 .nil .nil)))) (.node o115 (.node o179 (.node o11 (.node o563 (.node o1075 .nil .nil) .nil) (.node o819 (.node o1331 .nil .nil) .nil)) (.node o11 (.node o691 (.node o1203 .nil .nil) .nil) (.node o947 .nil .nil))) (.node o16 (.node o11 (.node o627 (.node o1139 .nil .nil) .nil) (.node o883 .nil .nil)) (.node o499 (.node o755 (.node o1267 .nil .nil) .nil) (.node o1011 .nil .nil)))))) (.node o27 (.node o43 (.node o75 (.node o139 (.node o267 (.node o11 (.node o1035 .nil .nil) .nil) (.node o11 (.node o11 .nil .nil) .nil)) (.node o395 (.node o16 (.node o16 .nil .nil) .nil) (.node o907 .nil .nil))) (.node o203 (.node o331 (.node o16 (.node o11 .nil .nil) .nil) (.node o11 .nil .nil)) (.node o459 (.node o24 (.node o11 .nil .nil) .nil) (.node o971 .nil .nil)))) (.node o107 (.node o11 (.node o299 (.node o555 (.node o11 .nil .nil) .nil) (.node o11 (.node o16 .nil .nil) .nil)) (.node o427 (.node o683 (.node o11 .nil .nil) .nil) (.node o16 .nil .nil))) (.node o11 (.node o363 (.node o619 (.node o1131 .nil .nil) .nil) (.node o875 .nil .nil)) (.node o11 (.node o747 (.node o1259 .nil .nil) .nil) (.node o1003 .nil .nil))))) (.node o11 (.node o11 (.node o155 (.node o11 (.node o539 (.node o16 .nil .nil) .nil) (.node o795 (.node o11 .nil .nil) .nil)) (.node o11 (.node o11 (.node o11 .nil .nil) .nil) (.node o11 .nil .nil))) (.node o219 (.node o11 (.node o11 (.node o1115 .nil .nil) .nil) (.node o859 .nil .nil)) (.node o16 (.node o11 (.node o1243 .nil .nil) .nil) (.node o987 .nil .nil)))) (.node o123 (.node o187 (.node o11 (.node o571 (.node o1083 .nil .nil) .nil) (.node o827 (.node o1339 .nil .nil) .nil)) (.node o443 (.node o699 (.node o1211 .nil .nil) .nil) (.node o11 .nil .nil))) (.node o251 (.node o11 (.node o11 (.node o1147 .nil .nil) .nil) (.node o11 .nil .nil)) (.node o507 (.node o763 (.node o1275 .nil .nil) .nil) (.node o1019 .nil .nil)))))))) (.node (boot_o_5 P) (.node (boot_o_9 P) (.node o17 (.node o33 (.node o65 (.node o11 (.node o16 (.node o513 (.node o11 .nil .nil) .nil) (.node o769 (.node o11 .nil .nil) .nil)) (.node o385 (.node o641 (.node o1153 .nil .nil) .nil) (.node o897 .nil .nil))) (.node o193 (.node o321 (.node o577 (.node o1089 .nil .nil) .nil) (.node o833 (.node o1345 .nil .nil) .nil)) (.node o11 (.node o705 (.node o1217 .nil .nil) .nil) (.node o961 .nil .nil)))) (.node o97 (.node o11 (.node o289 (.node o16 (.node o11 .nil .nil) .nil) (.node o16 (.node o16 .nil .nil) .nil)) (.node o417 (.node o673 (.node o16 .nil .nil) .nil) (.node o929 .nil .nil))) (.node o225 (.node o353 (.node o609 (.node o16 .nil .nil) .nil) (.node o11 .nil .nil)) (.node o11 (.node o16 (.node o16 .nil .nil) .nil) (.node o16 .nil .nil))))) (.node o49 (.node o81 (.node o145 (.node o273 (.node o529 (.node o1041 .nil .nil) .nil) (.node o785 (.node o1297 .nil .nil) .nil)) (.node o401 (.node o11 (.node o11 .nil .nil) .nil) (.node o913 .nil .nil))) (.node o209 (.node o337 (.node o11 (.node o1105 .nil .nil) .nil) (.node o849 .nil .nil)) (.node o465 (.node o11 (.node o1233 .nil .nil) .nil) (.node o977 .nil .nil)))) (.node o16 (.node o177 (.node o24 (.node o11 (.node o1073 .nil .nil) .nil) (.node o817 (.node o11 .nil .nil) .nil)) (.node o16 (.node o11 (.node o1201 .nil .nil) .nil) (.node o11 .nil .nil))) (.node o241 (.node o16 (.node o625 (.node o11 .nil .nil) .nil) (.node o11 .nil .nil)) (.node o497 (.node o11 (.node o11 .nil .nil) .nil) (.node (o1009 P) .nil .nil)))))) (.node (o25 P) (.node o41 (.node o11 (.node o11 (.node o265 (.node o521 (.node o1033 .nil .nil) .nil) (.node o777 (.node o16 .nil .nil) .nil)) (.node o393 (.node o649 (.node o1161 .nil .nil) .nil) (.node o11 .nil .nil))) (.node o201 (.node o11 (.node o585 (.node o1097 .nil .nil) .nil) (.node o841 .nil .nil)) (.node o457 (.node o713 (.node o1225 .nil .nil) .nil) (.node o11 .nil .nil)))) (.node o11 (.node o24 (.node o11 (.node o553 (.node o16 .nil .nil) .nil) (.node o16 (.node o1321 .nil .nil) .nil)) (.node o11 (.node o681 (.node o16 .nil .nil) .nil) (.node o375 .nil .nil))) (.node o233 (.node o11 (.node o11 (.node o1129 .nil .nil) .nil) (.node o873 .nil .nil)) (.node o16 (.node o745 (.node o1257 .nil .nil) .nil) (.node o1001 .nil .nil))))) (.node o16 (.node o89 (.node o11 (.node o281 (.node o11 (.node o1049 .nil .nil) .nil) (.node o11 (.node o1305 .nil .nil) .nil)) (.node o409 (.node o16 (.node o16 .nil .nil) .nil) (.node o921 .nil .nil))) (.node o11 (.node o345 (.node o16 (.node o11 .nil .nil) .nil) (.node o857 .nil .nil)) (.node o473 (.node o16 (.node o11 .nil .nil) .nil) (.node o985 .nil .nil)))) (.node o121 (.node o11 (.node o16 (.node o569 (.node o11 .nil .nil) .nil) (.node o11 (.node o16 .nil .nil) .nil)) (.node o441 (.node o697 (.node o11 .nil .nil) .nil) (.node o16 .nil .nil))) (.node o249 (.node o16 (.node o633 (.node o1145 .nil .nil) .nil) (.node o16 .nil .nil)) (.node o11 (.node o761 (.node o1273 .nil .nil) .nil) (.node o1017 .nil .nil))))))) (.node o13 (.node o21 (.node o37 (.node o69 (.node o133 (.node o261 (.node o16 (.node o11 .nil .nil) .nil) (.node o16 (.node o1285 .nil .nil) .nil)) (.node o389 (.node o11 (.node o1157 .nil .nil) .nil) (.node o901 .nil .nil))) (.node (o197 P) (.node o325 (.node (o581 P) (.node o16 .nil .nil) .nil) (.node (o837 P) .nil .nil)) (.node o11 (.node o709 (.node o16 .nil .nil) .nil) (.node o965 .nil .nil)))) (.node o11 (.node o165 (.node o11 (.node o549 (.node o1061 .nil .nil) .nil) (.node o805 (.node o11 .nil .nil) .nil)) (.node o11 (.node o677 (.node o1189 .nil .nil) .nil) (.node o11 .nil .nil))) (.node o16 (.node o11 (.node o613 (.node o1125 .nil .nil) .nil) (.node o11 .nil .nil)) (.node o485 (.node o741 (.node o1253 .nil .nil) .nil) (.node o997 .nil .nil))))) (.node o53 (.node o16 (.node o11 (.node o16 (.node o11 (.node o1045 .nil .nil) .nil) (.node o11 (.node o16 .nil .nil) .nil)) (.node o16 (.node o661 (.node o1173 .nil .nil) .nil) (.node o16 .nil .nil))) (.node o213 (.node o16 (.node o597 (.node o11 .nil .nil) .nil) (.node o853 .nil .nil)) (.node o469 (.node o725 (.node o11 .nil .nil) .nil) (.node o16 .nil .nil)))) (.node o11 (.node o181 (.node o309 (.node o11 (.node o1077 .nil .nil) .nil) (.node o821 (.node o1333 .nil .nil) .nil)) (.node o437 (.node o11 (.node o1205 .nil .nil) .nil) (.node o949 .nil .nil))) (.node o11 (.node o373 (.node o16 (.node o11 .nil .nil) .nil) (.node o885 .nil .nil)) (.node o501 (.node o11 (.node o1269 .nil .nil) .nil) (.node o1013 .nil .nil)))))) (.node o29 (.node o24 (.node o11 (.node o11 (.node o11 (.node o525 (.node o16 .nil .nil) .nil) (.node o781 (.node o1293 .nil .nil) .nil)) (.node o11 (.node o11 (.node o11 .nil .nil) .nil) (.node o11 .nil .nil))) (.node o11 (.node o11 (.node o11 (.node o1101 .nil .nil) .nil) (.node (o845 P) .nil .nil)) (.node o16 (.node o11 (.node o1229 .nil .nil) .nil) (.node o11 .nil .nil)))) (.node o109 (.node o173 (.node o301 (.node o557 (.node o1069 .nil .nil) .nil) (.node o813 (.node o11 .nil .nil) .nil)) (.node o429 (.node o685 (.node o1197 .nil .nil) .nil) (.node o11 .nil .nil))) (.node o237 (.node o365 (.node o11 (.node o1133 .nil .nil) .nil) (.node o16 .nil .nil)) (.node o493 (.node o749 (.node o1261 .nil .nil) .nil) (.node o1005 .nil .nil))))) (.node o61 (.node o93 (.node o157 (.node o285 (.node o541 (.node o11 .nil .nil) .nil) (.node o797 (.node o1309 .nil .nil) .nil)) (.node o413 (.node o669 (.node o1181 .nil .nil) .nil) (.node o925 .nil .nil))) (.node o11 (.node o349 (.node o605 (.node o1117 .nil .nil) .nil) (.node o861 .nil .nil)) (.node o11 (.node o733 (.node o1245 .nil .nil) .nil) (.node o989 .nil .nil)))) (.node o16 (.node o11 (.node o317 (.node (o573 P) (.node o11 .nil .nil) .nil) (.node o11 (.node o11 .nil .nil) .nil)) (.node o445 (.node o16 (.node o11 .nil .nil) .nil) (.node o957 .nil .nil))) (.node o253 (.node o381 (.node o637 (.node o16 .nil .nil) .nil) (.node o893 .nil .nil)) (.node o11 (.node o11 (.node o16 .nil .nil) .nil) (.node o1021 .nil .nil))))))))) (.node (o2 P) (.node (boot_o_4 P) (.node (boot_o_8 P) (.node o16 (.node o16 (.node o16 (.node o128 (.node o11 (.node o11 (.node o1024 .nil .nil) .nil) (.node o11 (.node o1280 .nil .nil) .nil)) (.node o16 (.node o640 (.node o1152 .nil .nil) .nil) (.node o16 .nil .nil))) (.node o11 (.node o16 (.node o576 (.node o11 .nil .nil) .nil) (.node o11 (.node o11 .nil .nil) .nil)) (.node (o448 P) (.node o704 (.node o11 .nil .nil) .nil) (.node o16 .nil .nil)))) (.node o96 (.node o160 (.node o288 (.node o11 (.node o1056 .nil .nil) .nil) (.node o11 (.node o11 .nil .nil) .nil)) (.node o416 (.node (o672 P) (.node o11 .nil .nil) .nil) (.node o928 .nil .nil))) (.node o11 (.node o352 (.node o16 (.node o11 .nil .nil) .nil) (.node o864 .nil .nil)) (.node o480 (.node o11 (.node o11 .nil .nil) .nil) (.node o11 .nil .nil))))) (.node o16 (.node o11 (.node o144 (.node o11 (.node o528 (.node o1040 .nil .nil) .nil) (.node o784 (.node o16 .nil .nil) .nil)) (.node o11 (.node o656 (.node o1168 .nil .nil) .nil) (.node o11 .nil .nil))) (.node o16 (.node o11 (.node o592 (.node o1104 .nil .nil) .nil) (.node o848 .nil .nil)) (.node o464 (.node o720 (.node o1232 .nil .nil) .nil) (.node o11 .nil .nil)))) (.node o11 (.node o16 (.node o11 (.node o560 (.node o16 .nil .nil) .nil) (.node o16 (.node o1328 .nil .nil) .nil)) (.node o11 (.node o688 (.node o16 .nil .nil) .nil) (.node o944 .nil .nil))) (.node o240 (.node o11 (.node o11 (.node o1136 .nil .nil) .nil) (.node o880 .nil .nil)) (.node o16 (.node o752 (.node o1264 .nil .nil) .nil) (.node o24 .nil .nil)))))) (.node o24 (.node o40 (.node o72 (.node o136 (.node o16 (.node o520 (.node o11 .nil .nil) .nil) (.node o776 (.node o11 .nil .nil) .nil)) (.node o392 (.node o648 (.node o1160 .nil .nil) .nil) (.node o904 .nil .nil))) (.node o200 (.node o328 (.node o584 (.node o1096 .nil .nil) .nil) (.node o840 .nil .nil)) (.node o11 (.node o712 (.node o1224 .nil .nil) .nil) (.node o968 .nil .nil)))) (.node o104 (.node o11 (.node o296 (.node o16 (.node o11 .nil .nil) .nil) (.node o11 (.node o1320 .nil .nil) .nil)) (.node o424 (.node o16 (.node o11 .nil .nil) .nil) (.node o936 .nil .nil))) (.node o232 (.node o360 (.node o616 (.node o16 .nil .nil) .nil) (.node o11 .nil .nil)) (.node o11 (.node o16 (.node o16 .nil .nil) .nil) (.node o16 .nil .nil))))) (.node o11 (.node o88 (.node o152 (.node o280 (.node o536 (.node o1048 .nil .nil) .nil) (.node o792 (.node o1304 .nil .nil) .nil)) (.node o408 (.node o11 (.node o11 .nil .nil) .nil) (.node o920 .nil .nil))) (.node o216 (.node o344 (.node o11 (.node o1112 .nil .nil) .nil) (.node o16 .nil .nil)) (.node o472 (.node o11 (.node o1240 .nil .nil) .nil) (.node o984 .nil .nil)))) (.node o11 (.node o184 (.node o11 (.node o11 (.node o1080 .nil .nil) .nil) (.node o824 (.node o11 .nil .nil) .nil)) (.node (o440 P) (.node o11 (.node o1208 .nil .nil) .nil) (.node o11 .nil .nil))) (.node o248 (.node o11 (.node o632 (.node o11 .nil .nil) .nil) (.node o11 .nil .nil)) (.node o504 (.node o11 (.node o1272 .nil .nil) .nil) (.node o16 .nil .nil))))))) (.node o12 (.node o20 (.node o36 (.node o68 (.node o132 (.node o260 (.node o11 (.node o1028 .nil .nil) .nil) (.node o11 (.node o11 .nil .nil) .nil)) (.node o388 (.node o644 (.node o16 .nil .nil) .nil) (.node o900 .nil .nil))) (.node o196 (.node o324 (.node o24 (.node o11 .nil .nil) .nil) (.node o836 .nil .nil)) (.node o452 (.node o16 (.node o11 .nil .nil) .nil) (.node o964 .nil .nil)))) (.node o100 (.node o11 (.node o292 (.node o548 (.node o11 .nil .nil) .nil) (.node o804 (.node o1316 .nil .nil) .nil)) (.node o420 (.node o676 (.node o1188 .nil .nil) .nil) (.node o932 .nil .nil))) (.node o11 (.node o356 (.node o612 (.node o1124 .nil .nil) .nil) (.node o868 .nil .nil)) (.node o11 (.node o740 (.node o1252 .nil .nil) .nil) (.node o996 .nil .nil))))) (.node (o52 P) (.node o11 (.node o148 (.node o11 (.node o532 (.node o16 .nil .nil) .nil) (.node o788 (.node o11 .nil .nil) .nil)) (.node o11 (.node o11 (.node o11 .nil .nil) .nil) (.node o11 .nil .nil))) (.node o212 (.node o11 (.node o11 (.node o1108 .nil .nil) .nil) (.node o852 .nil .nil)) (.node o16 (.node o11 (.node o1236 .nil .nil) .nil) (.node o11 .nil .nil)))) (.node o116 (.node o180 (.node o308 (.node o564 (.node o1076 .nil .nil) .nil) (.node o820 (.node o11 .nil .nil) .nil)) (.node o436 (.node o692 (.node o1204 .nil .nil) .nil) (.node o11 .nil .nil))) (.node o244 (.node o372 (.node o11 (.node o1140 .nil .nil) .nil) (.node o11 .nil .nil)) (.node o500 (.node o756 (.node o1268 .nil .nil) .nil) (.node o1012 .nil .nil)))))) (.node o28 (.node o44 (.node o76 (.node o140 (.node o268 (.node o16 (.node o11 .nil .nil) .nil) (.node o16 (.node o1292 .nil .nil) .nil)) (.node o396 (.node o652 (.node o1164 .nil .nil) .nil) (.node o908 .nil .nil))) (.node o204 (.node o332 (.node o588 (.node o16 .nil .nil) .nil) (.node o24 .nil .nil)) (.node o11 (.node (o716 P) (.node o16 .nil .nil) .nil) (.node o972 .nil .nil)))) (.node o11 (.node o172 (.node o11 (.node o556 (.node o1068 .nil .nil) .nil) (.node o812 (.node o1324 .nil .nil) .nil)) (.node o11 (.node o684 (.node o1196 .nil .nil) .nil) (.node o940 .nil .nil))) (.node o16 (.node o11 (.node o620 (.node o1132 .nil .nil) .nil) (.node o11 .nil .nil)) (.node o492 (.node o748 (.node o1260 .nil .nil) .nil) (.node o1004 .nil .nil))))) (.node o60 (.node o16 (.node o156 (.node o16 (.node o11 (.node o1052 .nil .nil) .nil) (.node o11 (.node o16 .nil .nil) .nil)) (.node o16 (.node o668 (.node o1180 .nil .nil) .nil) (.node o16 .nil .nil))) (.node o220 (.node o16 (.node o604 (.node o11 .nil .nil) .nil) (.node o860 .nil .nil)) (.node o476 (.node o732 (.node o11 .nil .nil) .nil) (.node o988 .nil .nil)))) (.node o11 (.node o188 (.node o316 (.node o572 (.node o1084 .nil .nil) .nil) (.node o828 (.node o1340 .nil .nil) .nil)) (.node o444 (.node o11 (.node o1212 .nil .nil) .nil) (.node o956 .nil .nil))) (.node o252 (.node o380 (.node o16 (.node o11 .nil .nil) .nil) (.node o892 .nil .nil)) (.node o508 (.node o375 (.node o11 .nil .nil) .nil) (.node o1020 .nil .nil)))))))) (.node (boot_o_6 P) (.node (boot_o_10 P) (.node o11 (.node o11 (.node o11 (.node o16 (.node o258 (.node o514 (.node o1026 .nil .nil) .nil) (.node o770 (.node o16 .nil .nil) .nil)) (.node o11 (.node o11 (.node o1154 .nil .nil) .nil) (.node o11 .nil .nil))) (.node o194 (.node o11 (.node o578 (.node o1090 .nil .nil) .nil) (.node o834 (.node o1346 .nil .nil) .nil)) (.node o450 (.node o706 (.node o1218 .nil .nil) .nil) (.node o11 .nil .nil)))) (.node o11 (.node o16 (.node o11 (.node o546 (.node o16 .nil .nil) .nil) (.node o802 (.node o1314 .nil .nil) .nil)) (.node o11 (.node o674 (.node o1186 .nil .nil) .nil) (.node o11 .nil .nil))) (.node o226 (.node o11 (.node o11 (.node o1122 .nil .nil) .nil) (.node o866 .nil .nil)) (.node o16 (.node o738 (.node o1250 .nil .nil) .nil) (.node o994 .nil .nil))))) (.node o50 (.node o82 (.node o11 (.node o274 (.node o11 (.node o1042 .nil .nil) .nil) (.node o11 (.node o1298 .nil .nil) .nil)) (.node o402 (.node o16 (.node o16 .nil .nil) .nil) (.node o914 .nil .nil))) (.node o11 (.node o338 (.node o16 (.node o11 .nil .nil) .nil) (.node o11 .nil .nil)) (.node o466 (.node o16 (.node o11 .nil .nil) .nil) (.node o978 .nil .nil)))) (.node o114 (.node o11 (.node (o306 P) (.node o562 (.node o11 .nil .nil) .nil) (.node o11 (.node o16 .nil .nil) .nil)) (.node o434 (.node o690 (.node o11 .nil .nil) .nil) (.node o16 .nil .nil))) (.node o11 (.node o370 (.node o626 (.node o1138 .nil .nil) .nil) (.node o16 .nil .nil)) (.node o11 (.node o754 (.node o1266 .nil .nil) .nil) (.node o11 .nil .nil)))))) (.node o11 (.node o42 (.node o74 (.node o138 (.node o266 (.node o522 (.node o1034 .nil .nil) .nil) (.node o778 (.node o1290 .nil .nil) .nil)) (.node o394 (.node o11 (.node o11 .nil .nil) .nil) (.node o906 .nil .nil))) (.node o202 (.node o330 (.node o11 (.node o1098 .nil .nil) .nil) (.node o842 .nil .nil)) (.node o458 (.node o11 (.node o1226 .nil .nil) .nil) (.node o970 .nil .nil)))) (.node o16 (.node (o170 P) (.node o16 (.node o11 (.node o1066 .nil .nil) .nil) (.node o810 (.node o11 .nil .nil) .nil)) (.node o16 (.node o11 (.node o1194 .nil .nil) .nil) (.node o11 .nil .nil))) (.node o234 (.node o16 (.node o618 (.node o11 .nil .nil) .nil) (.node o874 .nil .nil)) (.node o490 (.node o11 (.node o11 .nil .nil) .nil) (.node o11 .nil .nil))))) (.node o58 (.node o90 (.node o16 (.node o282 (.node o16 (.node o11 .nil .nil) .nil) (.node o16 (.node o1306 .nil .nil) .nil)) (.node o410 (.node o666 (.node o1178 .nil .nil) .nil) (.node o922 .nil .nil))) (.node o218 (.node o346 (.node o602 (.node o16 .nil .nil) .nil) (.node o11 .nil .nil)) (.node o11 (.node o730 (.node o16 .nil .nil) .nil) (.node (o986 P) .nil .nil)))) (.node o122 (.node o186 (.node o314 (.node o570 (.node o1082 .nil .nil) .nil) (.node o826 (.node o1338 .nil .nil) .nil)) (.node o442 (.node o698 (.node o1210 .nil .nil) .nil) (.node o954 .nil .nil))) (.node (o250 P) (.node o378 (.node o634 (.node o1146 .nil .nil) .nil) (.node o890 .nil .nil)) (.node o506 (.node o762 (.node o1274 .nil .nil) .nil) (.node o11 .nil .nil))))))) (.node o14 (.node o22 (.node o38 (.node o11 (.node o11 (.node o262 (.node o518 (.node o16 .nil .nil) .nil) (.node o774 (.node o1286 .nil .nil) .nil)) (.node o390 (.node o646 (.node o11 .nil .nil) .nil) (.node o11 .nil .nil))) (.node o198 (.node o11 (.node o11 (.node o1094 .nil .nil) .nil) (.node o838 .nil .nil)) (.node o16 (.node o11 (.node o1222 .nil .nil) .nil) (.node o11 .nil .nil)))) (.node o102 (.node o166 (.node o294 (.node o550 (.node o1062 .nil .nil) .nil) (.node o806 (.node o16 .nil .nil) .nil)) (.node o422 (.node o678 (.node o1190 .nil .nil) .nil) (.node o934 .nil .nil))) (.node o230 (.node o358 (.node o11 (.node o1126 .nil .nil) .nil) (.node o16 .nil .nil)) (.node o486 (.node o742 (.node o1254 .nil .nil) .nil) (.node o998 .nil .nil))))) (.node o54 (.node o86 (.node o150 (.node o278 (.node o534 (.node o11 .nil .nil) .nil) (.node o790 (.node o1302 .nil .nil) .nil)) (.node o406 (.node o662 (.node o1174 .nil .nil) .nil) (.node o918 .nil .nil))) (.node o11 (.node o342 (.node o598 (.node o1110 .nil .nil) .nil) (.node o854 .nil .nil)) (.node o11 (.node o726 (.node o1238 .nil .nil) .nil) (.node o982 .nil .nil)))) (.node o16 (.node o11 (.node o310 (.node o16 (.node o11 .nil .nil) .nil) (.node o11 (.node o1334 .nil .nil) .nil)) (.node o438 (.node o16 (.node o11 .nil .nil) .nil) (.node o950 .nil .nil))) (.node o246 (.node o374 (.node o630 (.node o16 .nil .nil) .nil) (.node o886 .nil .nil)) (.node o11 (.node o16 (.node (o1270 P) .nil .nil) .nil) (.node o30 .nil .nil)))))) (.node o30 (.node (o46 P) (.node o16 (.node o16 (.node o16 (.node o11 (.node o1038 .nil .nil) .nil) (.node o11 (.node o1294 .nil .nil) .nil)) (.node o24 (.node o654 (.node o1166 .nil .nil) .nil) (.node o16 .nil .nil))) (.node o206 (.node o16 (.node o590 (.node o11 .nil .nil) .nil) (.node o11 .nil .nil)) (.node o462 (.node o718 (.node o11 .nil .nil) .nil) (.node o16 .nil .nil)))) (.node o110 (.node o174 (.node o302 (.node o11 (.node o1070 .nil .nil) .nil) (.node o814 (.node o1326 .nil .nil) .nil)) (.node o430 (.node o11 (.node o1198 .nil .nil) .nil) (.node o942 .nil .nil))) (.node o11 (.node o366 (.node o16 (.node o11 .nil .nil) .nil) (.node o878 .nil .nil)) (.node o494 (.node o11 (.node o11 .nil .nil) .nil) (.node o1006 .nil .nil))))) (.node o62 (.node o11 (.node o158 (.node o11 (.node o542 (.node o1054 .nil .nil) .nil) (.node o798 (.node o1310 .nil .nil) .nil)) (.node o11 (.node o670 (.node o1182 .nil .nil) .nil) (.node o11 .nil .nil))) (.node o24 (.node o11 (.node o606 (.node o1118 .nil .nil) .nil) (.node o11 .nil .nil)) (.node o478 (.node o734 (.node o1246 .nil .nil) .nil) (.node o990 .nil .nil)))) (.node o126 (.node o16 (.node o318 (.node o574 (.node o16 .nil .nil) .nil) (.node o16 (.node o16 .nil .nil) .nil)) (.node o11 (.node o702 (.node o16 .nil .nil) .nil) (.node o958 .nil .nil))) (.node o254 (.node o382 (.node o11 (.node o1150 .nil .nil) .nil) (.node o894 .nil .nil)) (.node o16 (.node o16 (.node o1278 .nil .nil) .nil) (.node o11 .nil .nil))))))))))
noncomputable def trS (P : Params) : BT := (.node (boot_o_0 P) (.node (boot_o_1 P) (.node (boot_o_3 P) (.node (boot_o_7 P) .nil .nil) (.node o11 .nil .nil)) (.node (boot_o_5 P) (.node (boot_o_9 P) .nil .nil) (.node o13 .nil .nil))) (.node (boot_o_2 P) (.node (boot_o_4 P) (.node (boot_o_8 P) .nil .nil) (.node (s12 P) .nil .nil)) (.node (boot_o_6 P) (.node (boot_o_10 P) .nil .nil) (.node o14 .nil .nil))))
noncomputable def hpS (P : Params) : Heap := ⟨#[(boot_o_0 P), (boot_o_1 P), (boot_o_2 P), (boot_o_3 P), (boot_o_4 P), (boot_o_5 P), (boot_o_6 P), (boot_o_7 P), (boot_o_8 P), (boot_o_9 P), (boot_o_10 P), o11, (s12 P), o13, o14], ⟨[], [], [], 0, [], [], false, #[], [], 0, false, false, false, 0, [2000, 10, 10], false, 0, true, [], [], 0, false⟩⟩
noncomputable def KK (P : Params) : Frag :=
  (nat_lit 2, ⟨.none, none, (.dict #[sE P "type.__subclasses__.Exception.0" 242 (.int 40 0), sE P "type.__subclasses__.Exception.n" 243 (.int 1 0)] 2), #[]⟩) ::
  (nat_lit 3, ⟨(.type "dict"), none, (.dict #[sE P "__name__" 165 (.str "law_og0294_01" 1895), sE P "__doc__" 166 .none, sE P "__package__" 167 .none, sE P "__loader__" 168 (.builtin "__main__.__loader__#opaque"), sE P "__spec__" 169 .none, sE P "__annotations__" 170 (.ref 6), sE P "__builtins__" 171 (.ref 4), sE P "__file__" 173 (.str "/claim/cut.py" 172), sE P "__cached__" 174 .none, sE P "_wall" 193 (.ref 21), sE P "BOLD" 197 (.int 1 196), sE P "BLINK" 199 (.int 8 198), sE P "INVERSE" 201 (.int 32 200), sE P "UNDER_SHIFT" 203 (.int 9 202), sE P "UNDER_MASK" 206 (.int 3584 205), sE P "NO_COLOUR" 209 (.int (-1) 208), sE P "PLAIN" 212 (.ref 22), sE P "BACK" 214 (.int 2 213), sE P "BLANK" 216 (.int 32 215), sE P "TermError" 245 (.ref 40), sE P "BadSize" 261 (.ref 53), sE P "clamp" 270 (.ref 62), sE P "decimal_octets" 279 (.ref 69), sE P "number_of" 288 (.ref 76), sE P "under_of" 295 (.ref 83), sE P "flags_with_under" 303 (.ref 90), sE P "erased_pen" 310 (.ref 97), sE P "blank_cell" 317 (.ref 104), sE P "is_blank" 324 (.ref 111), sE P "REPORT_BASE" 328 (.int 64 327), sE P "LAST_ROW_FINALS" 330 (.int 126 329), sE P "report_numbers" 336 (.ref 116), sE P "bits_octet" 346 (.ref 123), sE P "octet_bits" 352 (.ref 128), sE P "cursor_report" 358 (.ref 133), sE P "designated_names" 370 (.ref 140), sE P "cursor_fields" 376 (.ref 145), sE P "restore_cursor_report" 401 (.ref 152), sE P "restore_tab_report" 407 (.ref 157), sE P "MOUSE_MODES" 414 (.ref 158), sE P "MOUSE_ENCODINGS" 419 (.ref 159), sE P "FIRST_ON" 425 (.ref 160), sE P "modes_group" 432 (.ref 167), sE P "Modes" 480 (.ref 198), sE P "WIDTH_PICTURE" 484 (.int 65039 483), sE P "WIDTH_KEYCAP" 486 (.int 8419 485), sE P "FIRST_REGION" 489 (.int 127462 487), sE P "LAST_REGION" 490 (.int 127487 488), sE P "width_in_ranges" 501 (.ref 213), sE P "width_check_ranges" 512 (.ref 220), sE P "WidthTable" 562 (.ref 251), sE P "is_region" 569 (.ref 262), sE P "cluster_width" 575 (.ref 267), sE P "ASCII_SET" 579 (.bytes #[66] 578), sE P "SUPPLEMENT_SET" 581 (.bytes #[37, 53] 580), sE P "LATIN_SET" 583 (.bytes #[45, 65] 582), sE P "LEFT_FIRST" 585 (.int 32 584), sE P "LEFT_LAST" 587 (.int 127 586), sE P "HIGH_BIT" 589 (.int 128 588), sE P "CHARSET_NAMES" 609 (.ref 268), sE P "charset_pairs" 617 (.ref 275), sE P "charset_drawing" 624 (.ref 282), sE P "charset_supplement" 633 (.ref 289), sE P "charset_national" 640 (.ref 296), sE P "charset_table" 647 (.ref 303), sE P "Charsets" 758 (.ref 392), sE P "TAB_WIDTH" 762 (.int 8 761), sE P "Cursor" 826 (.ref 441), sE P "Margins" 987 (.ref 574), sE P "Tabs" 1106 (.ref 673), sE P "LINE_SIZES" 1113 (.ref 678), sE P "line_blanks" 1121 (.ref 685), sE P "right_half" 1128 (.ref 692), sE P "line_part" 1136 (.ref 699), sE P "line_slice" 1146 (.ref 706), sE P "line_codes" 1156 (.ref 713), sE P "Line" 1333 (.ref 838), sE P "Grid" 1546 (.ref 987), sE P "grid_cut" 1553 (.ref 998), sE P "grid_mended" 1561 (.ref 1005), sE P "WIDE_SIZES" 1567 (.ref 1006), sE P "Screen" 1894 (.ref 1271), sE P "_law_deck" 1902 (.ref 1280), sE P "_law_draw" 1912 (.ref 1287), sE P "_law_pick" 1920 (.ref 1294), sE P "_law_screen" 1926 (.ref 1299), sE P "_law_state" 1936 (.ref 1306), sE P "_law_bits" 1942 (.ref 1311), sE P "_law_decimal" 1948 (.ref 1316), sE P "_law_fields" 1954 (.ref 1321), sE P "_law_put" 1970 (.ref 1328), sE P "_law_spoilt" 1981 (.ref 1335), sE P "_law_tabs_right" 1987 (.ref 1340), sE P "law" 2000 (.ref 1347)] 94), #[]⟩) ::
  (nat_lit 22, ⟨(.type "tuple"), none, (.seq #[(.int 0 210), (.int (-1) 208), (.int (-1) 208), (.int (-1) 208), (.int 0 211)] 0), #[]⟩) ::
  (nat_lit 39, ⟨(.type "dict"), none, (.dict #[sE P "__module__" 224 (.str "termcore.base" 194), sE P "__firstlineno__" 228 (.int 14 227), sE P "__init__" 236 (.ref 37), sE P "__static_attributes__" 238 (.ref 38), sE P "__weakref__" 240 (.ref 41), sE P "__doc__" 241 .none] 3), #[]⟩) ::
  (nat_lit 40, ⟨(.type "type"), none, (.cls ⟨"TermError", [(.type "Exception")], [(.ref 40), (.type "Exception"), (.type "BaseException"), (.type "object")], 39, "TermError", true, [], [(.ref 53)], false, none, false⟩), #[(some (.ref 23)), none, (some (.str "TermError" 217)), (some (.str "TermError" 225)), (some (.builtin "Exception.__new__")), (some (.bool true))]⟩) ::
  (nat_lit 41, ⟨(.type "getset_descriptor"), none, (.fields #[(.str "__weakref__" 239), (.ref 40), (.builtin "ExceptionGroup.__weakref__"), .none]), #[]⟩) ::
  (nat_lit 52, ⟨(.type "dict"), none, (.dict #[sE P "__module__" 253 (.str "termcore.base" 194), sE P "__firstlineno__" 257 (.int 18 256), sE P "__static_attributes__" 258 (.ref 51), sE P "__doc__" 259 .none] 2), #[]⟩) ::
  (nat_lit 53, ⟨(.type "type"), none, (.cls ⟨"BadSize", [(.ref 40)], [(.ref 53), (.ref 40), (.type "Exception"), (.type "BaseException"), (.type "object")], 52, "BadSize", true, [], [], false, none, false⟩), #[(some (.ref 44)), none, (some (.str "BadSize" 246)), (some (.str "BadSize" 254)), (some (.builtin "Exception.__new__")), (some (.bool true))]⟩) ::
  (nat_lit 61, ⟨(.type "code"), none, (.fields #[(.str "clamp" 262), (.str "clamp" 263), (.str "/claim/cut.py" 264), (.int 20 0), (.int 3 0), (.int 0 0), (.int 0 0), (.int 3 0), (.ref 56), (.bool true), (.int 181 0), (.ref 57), .none, (.ref 58), (.ref 59), (.ref 60), (.int 268 0), (.int 20 0), (.str "/claim/cut.py" 269)]), #[]⟩) ::
  (nat_lit 62, ⟨(.type "function"), none, (.func (mkF (at1 13) rfl "clamp" "clamp" 3 .none .none .none (.str "termcore.base" 194) none (.ref 61) .none 0)), #[]⟩) ::
  (nat_lit 68, ⟨(.type "code"), none, (.fields #[(.str "decimal_octets" 271), (.str "decimal_octets" 272), (.str "/claim/cut.py" 273), (.int 22 0), (.int 1 0), (.int 0 0), (.int 0 0), (.int 3 0), (.ref 63), (.bool true), (.int 181 0), (.ref 64), .none, (.ref 65), (.ref 66), (.ref 67), (.int 277 0), (.int 22 0), (.str "/claim/cut.py" 278)]), #[]⟩) ::
  (nat_lit 69, ⟨(.type "function"), none, (.func (mkF (at1 14) rfl "decimal_octets" "decimal_octets" 3 .none .none .none (.str "termcore.base" 194) none (.ref 68) .none 0)), #[]⟩) ::
  (nat_lit 75, ⟨(.type "code"), none, (.fields #[(.str "number_of" 280), (.str "number_of" 281), (.str "/claim/cut.py" 282), (.int 32 0), (.int 1 0), (.int 0 0), (.int 0 0), (.int 3 0), (.ref 70), (.bool true), (.int 181 0), (.ref 71), .none, (.ref 72), (.ref 73), (.ref 74), (.int 286 0), (.int 32 0), (.str "/claim/cut.py" 287)]), #[]⟩) ::
  (nat_lit 76, ⟨(.type "function"), none, (.func (mkF (at1 15) rfl "number_of" "number_of" 3 .none .none .none (.str "termcore.base" 194) none (.ref 75) .none 0)), #[]⟩) ::
  (nat_lit 82, ⟨(.type "code"), none, (.fields #[(.str "under_of" 289), (.str "under_of" 290), (.str "/claim/cut.py" 291), (.int 41 0), (.int 1 0), (.int 0 0), (.int 0 0), (.int 3 0), (.ref 77), (.bool true), (.int 181 0), (.ref 78), .none, (.ref 79), (.ref 80), (.ref 81), (.int 293 0), (.int 41 0), (.str "/claim/cut.py" 294)]), #[]⟩) ::
  (nat_lit 83, ⟨(.type "function"), none, (.func (mkF (at1 16) rfl "under_of" "under_of" 3 .none .none .none (.str "termcore.base" 194) none (.ref 82) .none 0)), #[]⟩) ::
  (nat_lit 89, ⟨(.type "code"), none, (.fields #[(.str "flags_with_under" 296), (.str "flags_with_under" 297), (.str "/claim/cut.py" 298), (.int 43 0), (.int 2 0), (.int 0 0), (.int 0 0), (.int 3 0), (.ref 84), (.bool true), (.int 181 0), (.ref 85), .none, (.ref 86), (.ref 87), (.ref 88), (.int 301 0), (.int 43 0), (.str "/claim/cut.py" 302)]), #[]⟩) ::
  (nat_lit 90, ⟨(.type "function"), none, (.func (mkF (at1 17) rfl "flags_with_under" "flags_with_under" 3 .none .none .none (.str "termcore.base" 194) none (.ref 89) .none 0)), #[]⟩) ::
  (nat_lit 96, ⟨(.type "code"), none, (.fields #[(.str "erased_pen" 304), (.str "erased_pen" 305), (.str "/claim/cut.py" 306), (.int 45 0), (.int 1 0), (.int 0 0), (.int 0 0), (.int 3 0), (.ref 91), (.bool true), (.int 181 0), (.ref 92), .none, (.ref 93), (.ref 94), (.ref 95), (.int 308 0), (.int 45 0), (.str "/claim/cut.py" 309)]), #[]⟩) ::
  (nat_lit 97, ⟨(.type "function"), none, (.func (mkF (at1 18) rfl "erased_pen" "erased_pen" 3 .none .none .none (.str "termcore.base" 194) none (.ref 96) .none 0)), #[]⟩) ::
  (nat_lit 103, ⟨(.type "code"), none, (.fields #[(.str "blank_cell" 311), (.str "blank_cell" 312), (.str "/claim/cut.py" 313), (.int 47 0), (.int 1 0), (.int 0 0), (.int 0 0), (.int 3 0), (.ref 98), (.bool true), (.int 181 0), (.ref 99), .none, (.ref 100), (.ref 101), (.ref 102), (.int 315 0), (.int 47 0), (.str "/claim/cut.py" 316)]), #[]⟩) ::
  (nat_lit 104, ⟨(.type "function"), none, (.func (mkF (at1 19) rfl "blank_cell" "blank_cell" 3 .none .none .none (.str "termcore.base" 194) none (.ref 103) .none 0)), #[]⟩) ::
  (nat_lit 115, ⟨(.type "code"), none, (.fields #[(.str "report_numbers" 331), (.str "report_numbers" 332), (.str "/claim/cut.py" 333), (.int 54 0), (.int 1 0), (.int 0 0), (.int 0 0), (.int 3 0), (.ref 112), (.bool true), (.int 181 0), (.ref 113), .none, .none, .none, (.ref 114), (.int 334 0), (.int 54 0), (.str "/claim/cut.py" 335)]), #[]⟩) ::
  (nat_lit 116, ⟨(.type "function"), none, (.func (mkF (at1 24) rfl "report_numbers" "report_numbers" 3 .none .none .none (.str "termcore.reports" 325) none (.ref 115) .none 0)), #[]⟩) ::
  (nat_lit 122, ⟨(.type "code"), none, (.fields #[(.str "bits_octet" 337), (.str "bits_octet" 338), (.str "/claim/cut.py" 339), (.int 56 0), (.int 1 0), (.int 0 0), (.int 0 0), (.int 3 0), (.ref 117), (.bool true), (.int 181 0), (.ref 118), .none, (.ref 119), (.ref 120), (.ref 121), (.int 344 0), (.int 56 0), (.str "/claim/cut.py" 345)]), #[]⟩) ::
  (nat_lit 123, ⟨(.type "function"), none, (.func (mkF (at1 25) rfl "bits_octet" "bits_octet" 3 .none .none .none (.str "termcore.reports" 325) none (.ref 122) .none 0)), #[]⟩) ::
  (nat_lit 127, ⟨(.type "code"), none, (.fields #[(.str "octet_bits" 347), (.str "octet_bits" 348), (.str "/claim/cut.py" 349), (.int 61 0), (.int 2 0), (.int 0 0), (.int 0 0), (.int 3 0), (.ref 124), (.bool true), (.int 181 0), (.ref 125), .none, .none, .none, (.ref 126), (.int 350 0), (.int 61 0), (.str "/claim/cut.py" 351)]), #[]⟩) ::
  (nat_lit 128, ⟨(.type "function"), none, (.func (mkF (at1 26) rfl "octet_bits" "octet_bits" 3 .none .none .none (.str "termcore.reports" 325) none (.ref 127) .none 0)), #[]⟩) ::
  (nat_lit 132, ⟨(.type "code"), none, (.fields #[(.str "cursor_report" 353), (.str "cursor_report" 354), (.str "/claim/cut.py" 355), (.int 65 0), (.int 1 0), (.int 0 0), (.int 0 0), (.int 3 0), (.ref 129), (.bool true), (.int 181 0), (.ref 130), .none, .none, .none, (.ref 131), (.int 356 0), (.int 65 0), (.str "/claim/cut.py" 357)]), #[]⟩) ::
  (nat_lit 133, ⟨(.type "function"), none, (.func (mkF (at1 27) rfl "cursor_report" "cursor_report" 3 .none .none .none (.str "termcore.reports" 325) none (.ref 132) .none 0)), #[]⟩) ::
  (nat_lit 139, ⟨(.type "code"), none, (.fields #[(.str "designated_names" 359), (.str "designated_names" 360), (.str "/claim/cut.py" 361), (.int 70 0), (.int 2 0), (.int 0 0), (.int 0 0), (.int 3 0), (.ref 134), (.bool true), (.int 181 0), (.ref 135), .none, (.ref 136), (.ref 137), (.ref 138), (.int 368 0), (.int 70 0), (.str "/claim/cut.py" 369)]), #[]⟩) ::
  (nat_lit 140, ⟨(.type "function"), none, (.func (mkF (at1 28) rfl "designated_names" "designated_names" 3 .none .none .none (.str "termcore.reports" 325) none (.ref 139) .none 0)), #[]⟩) ::
  (nat_lit 144, ⟨(.type "code"), none, (.fields #[(.str "cursor_fields" 371), (.str "cursor_fields" 372), (.str "/claim/cut.py" 373), (.int 79 0), (.int 1 0), (.int 0 0), (.int 0 0), (.int 3 0), (.ref 141), (.bool true), (.int 181 0), (.ref 142), .none, .none, .none, (.ref 143), (.int 374 0), (.int 79 0), (.str "/claim/cut.py" 375)]), #[]⟩) ::
  (nat_lit 145, ⟨(.type "function"), none, (.func (mkF (at1 29) rfl "cursor_fields" "cursor_fields" 3 .none .none .none (.str "termcore.reports" 325) none (.ref 144) .none 0)), #[]⟩) ::
  (nat_lit 151, ⟨(.type "code"), none, (.fields #[(.str "restore_cursor_report" 377), (.str "restore_cursor_report" 378), (.str "/claim/cut.py" 379), (.int 89 0), (.int 2 0), (.int 0 0), (.int 0 0), (.int 3 0), (.ref 146), (.bool true), (.int 181 0), (.ref 147), .none, (.ref 148), (.ref 149), (.ref 150), (.int 399 0), (.int 89 0), (.str "/claim/cut.py" 400)]), #[]⟩) ::
  (nat_lit 152, ⟨(.type "function"), none, (.func (mkF (at1 30) rfl "restore_cursor_report" "restore_cursor_report" 3 .none .none .none (.str "termcore.reports" 325) none (.ref 151) .none 0)), #[]⟩) ::
  (nat_lit 156, ⟨(.type "code"), none, (.fields #[(.str "restore_tab_report" 402), (.str "restore_tab_report" 403), (.str "/claim/cut.py" 404), (.int 108 0), (.int 2 0), (.int 0 0), (.int 0 0), (.int 3 0), (.ref 153), (.bool true), (.int 181 0), (.ref 154), .none, .none, .none, (.ref 155), (.int 405 0), (.int 108 0), (.str "/claim/cut.py" 406)]), #[]⟩) ::
  (nat_lit 157, ⟨(.type "function"), none, (.func (mkF (at1 31) rfl "restore_tab_report" "restore_tab_report" 3 .none .none .none (.str "termcore.reports" 325) none (.ref 156) .none 0)), #[]⟩) ::
  (nat_lit 158, ⟨(.type "tuple"), none, (.seq #[(.str "mouse_x10" 410), (.str "mouse_click" 411), (.str "mouse_drag" 412), (.str "mouse_all" 413)] 0), #[]⟩) ::
  (nat_lit 159, ⟨(.type "tuple"), none, (.seq #[(.str "mouse_utf8" 415), (.str "mouse_sgr" 416), (.str "mouse_urxvt" 417), (.str "mouse_pixels" 418)] 0), #[]⟩) ::
  (nat_lit 160, ⟨(.type "tuple"), none, (.seq #[(.str "send_receive" 420), (.str "autowrap" 421), (.str "autorepeat" 422), (.str "show_cursor" 423), (.str "num_lock" 424)] 0), #[]⟩) ::
  (nat_lit 166, ⟨(.type "code"), none, (.fields #[(.str "modes_group" 426), (.str "modes_group" 427), (.str "/claim/cut.py" 428), (.int 116 0), (.int 1 0), (.int 0 0), (.int 0 0), (.int 3 0), (.ref 161), (.bool true), (.int 181 0), (.ref 162), .none, (.ref 163), (.ref 164), (.ref 165), (.int 430 0), (.int 116 0), (.str "/claim/cut.py" 431)]), #[]⟩) ::
  (nat_lit 167, ⟨(.type "function"), none, (.func (mkF (at1 36) rfl "modes_group" "modes_group" 3 .none .none .none (.str "termcore.modes" 408) none (.ref 166) .none 0)), #[]⟩) ::
  (nat_lit 180, ⟨(.type "code"), none, (.fields #[(.str "__init__" 445), (.str "Modes.__init__" 446), (.str "/claim/cut.py" 447), (.int 122 0), (.int 1 0), (.int 0 0), (.int 0 0), (.int 3 0), (.ref 175), (.bool true), (.int 181 0), (.ref 176), .none, (.ref 177), (.ref 178), (.ref 179), (.int 450 0), (.int 122 0), (.str "/claim/cut.py" 451)]), #[]⟩) ::
  (nat_lit 181, ⟨(.type "function"), none, (.func (mkF (at2 37 0) rfl "__init__" "Modes.__init__" 3 .none .none .none (.str "termcore.modes" 408) none (.ref 180) .none 0)), #[]⟩) ::
  (nat_lit 187, ⟨(.type "code"), none, (.fields #[(.str "is_on" 453), (.str "Modes.is_on" 454), (.str "/claim/cut.py" 455), (.int 128 0), (.int 2 0), (.int 0 0), (.int 0 0), (.int 3 0), (.ref 182), (.bool true), (.int 181 0), (.ref 183), .none, (.ref 184), (.ref 185), (.ref 186), (.int 458 0), (.int 128 0), (.str "/claim/cut.py" 459)]), #[]⟩) ::
  (nat_lit 188, ⟨(.type "function"), none, (.func (mkF (at2 37 1) rfl "is_on" "Modes.is_on" 3 .none .none .none (.str "termcore.modes" 408) none (.ref 187) .none 0)), #[]⟩) ::
  (nat_lit 194, ⟨(.type "code"), none, (.fields #[(.str "set" 461), (.str "Modes.set" 462), (.str "/claim/cut.py" 463), (.int 131 0), (.int 3 0), (.int 0 0), (.int 0 0), (.int 3 0), (.ref 189), (.bool true), (.int 181 0), (.ref 190), .none, (.ref 191), (.ref 192), (.ref 193), (.int 468 0), (.int 131 0), (.str "/claim/cut.py" 469)]), #[]⟩) ::
  (nat_lit 195, ⟨(.type "function"), none, (.func (mkF (at2 37 2) rfl "set" "Modes.set" 3 .none .none .none (.str "termcore.modes" 408) none (.ref 194) .none 0)), #[]⟩) ::
  (nat_lit 197, ⟨(.type "dict"), none, (.dict #[sE P "__module__" 440 (.str "termcore.modes" 408), sE P "__firstlineno__" 444 (.int 120 443), sE P "__init__" 452 (.ref 181), sE P "is_on" 460 (.ref 188), sE P "set" 470 (.ref 195), sE P "__static_attributes__" 473 (.ref 196), sE P "__dict__" 475 (.ref 199), sE P "__weakref__" 477 (.ref 200), sE P "__doc__" 478 .none] 4), #[]⟩) ::
  (nat_lit 198, ⟨(.type "type"), none, (.cls ⟨"Modes", [(.type "object")], [(.ref 198), (.type "object")], 197, "Modes", true, [], [], false, none, false⟩), #[none, none, (some (.str "Modes" 433)), (some (.str "Modes" 441)), (some (.builtin "object.__new__")), (some (.bool true))]⟩) ::
  (nat_lit 199, ⟨(.type "getset_descriptor"), none, (.fields #[(.str "__dict__" 474), (.ref 198), (.builtin "function.__dict__"), (.builtin "function.__dict__#set")]), #[]⟩) ::
  (nat_lit 200, ⟨(.type "getset_descriptor"), none, (.fields #[(.str "__weakref__" 476), (.ref 198), (.builtin "ExceptionGroup.__weakref__"), .none]), #[]⟩) ::
  (nat_lit 219, ⟨(.type "code"), none, (.fields #[(.str "width_check_ranges" 502), (.str "width_check_ranges" 503), (.str "/claim/cut.py" 504), (.int 149 0), (.int 1 0), (.int 0 0), (.int 0 0), (.int 3 0), (.ref 214), (.bool true), (.int 181 0), (.ref 215), .none, (.ref 216), (.ref 217), (.ref 218), (.int 510 0), (.int 149 0), (.str "/claim/cut.py" 511)]), #[]⟩) ::
  (nat_lit 220, ⟨(.type "function"), none, (.func (mkF (at1 43) rfl "width_check_ranges" "width_check_ranges" 3 .none .none .none (.str "termcore.cellwidths" 481) none (.ref 219) .none 0)), #[]⟩) ::
  (nat_lit 233, ⟨(.type "code"), none, (.fields #[(.str "__init__" 525), (.str "WidthTable.__init__" 526), (.str "/claim/cut.py" 527), (.int 157 0), (.int 4 0), (.int 0 0), (.int 0 0), (.int 3 0), (.ref 228), (.bool true), (.int 181 0), (.ref 229), .none, (.ref 230), (.ref 231), (.ref 232), (.int 533 0), (.int 157 0), (.str "/claim/cut.py" 534)]), #[]⟩) ::
  (nat_lit 234, ⟨(.type "function"), none, (.func (mkF (at2 44 0) rfl "__init__" "WidthTable.__init__" 3 .none .none .none (.str "termcore.cellwidths" 481) none (.ref 233) .none 0)), #[]⟩) ::
  (nat_lit 250, ⟨(.type "dict"), none, (.dict #[sE P "__module__" 520 (.str "termcore.cellwidths" 481), sE P "__firstlineno__" 524 (.int 155 523), sE P "__init__" 535 (.ref 234), sE P "width_of" 543 (.ref 241), sE P "is_picture" 551 (.ref 248), sE P "__static_attributes__" 555 (.ref 249), sE P "__dict__" 557 (.ref 252), sE P "__weakref__" 559 (.ref 253), sE P "__doc__" 560 .none] 4), #[]⟩) ::
  (nat_lit 251, ⟨(.type "type"), none, (.cls ⟨"WidthTable", [(.type "object")], [(.ref 251), (.type "object")], 250, "WidthTable", true, [], [], false, none, false⟩), #[none, none, (some (.str "WidthTable" 513)), (some (.str "WidthTable" 521)), (some (.builtin "object.__new__")), (some (.bool true))]⟩) ::
  (nat_lit 252, ⟨(.type "getset_descriptor"), none, (.fields #[(.str "__dict__" 556), (.ref 251), (.builtin "function.__dict__"), (.builtin "function.__dict__#set")]), #[]⟩) ::
  (nat_lit 253, ⟨(.type "getset_descriptor"), none, (.fields #[(.str "__weakref__" 558), (.ref 251), (.builtin "ExceptionGroup.__weakref__"), .none]), #[]⟩) ::
  (nat_lit 268, ⟨(.type "tuple"), none, (.seq #[(.bytes #[66] 578), (.bytes #[65] 590), (.bytes #[48] 591), (.bytes #[37, 53] 580), (.bytes #[60] 592), (.bytes #[45, 65] 582), (.bytes #[52] 593), (.bytes #[67] 594), (.bytes #[53] 595), (.bytes #[82] 596), (.bytes #[102] 597), (.bytes #[81] 598), (.bytes #[57] 599), (.bytes #[75] 600), (.bytes #[89] 601), (.bytes #[96] 602), (.bytes #[69] 603), (.bytes #[54] 604), (.bytes #[90] 605), (.bytes #[72] 606), (.bytes #[55] 607), (.bytes #[61] 608)] 0), #[]⟩) ::
  (nat_lit 311, ⟨(.type "tuple"), none, (.seq #[.none] 0), #[]⟩) ::
  (nat_lit 317, ⟨(.type "code"), none, (.fields #[(.str "__init__" 660), (.str "Charsets.__init__" 661), (.str "/claim/cut.py" 662), (.int 241 0), (.int 2 0), (.int 0 0), (.int 0 0), (.int 3 0), (.ref 312), (.bool true), (.int 181 0), (.ref 313), .none, (.ref 314), (.ref 315), (.ref 316), (.int 665 0), (.int 241 0), (.str "/claim/cut.py" 666)]), #[]⟩) ::
  (nat_lit 318, ⟨(.type "function"), none, (.func (mkF (at2 60 0) rfl "__init__" "Charsets.__init__" 3 (.ref 311) .none .none (.str "termcore.charsets" 576) none (.ref 317) .none 0)), #[]⟩) ::
  (nat_lit 331, ⟨(.type "code"), none, (.fields #[(.str "reset" 676), (.str "Charsets.reset" 677), (.str "/claim/cut.py" 678), (.int 250 0), (.int 1 0), (.int 0 0), (.int 0 0), (.int 3 0), (.ref 326), (.bool true), (.int 181 0), (.ref 327), .none, (.ref 328), (.ref 329), (.ref 330), (.int 680 0), (.int 250 0), (.str "/claim/cut.py" 681)]), #[]⟩) ::
  (nat_lit 332, ⟨(.type "function"), none, (.func (mkF (at2 60 2) rfl "reset" "Charsets.reset" 3 .none .none .none (.str "termcore.charsets" 576) none (.ref 331) .none 0)), #[]⟩) ::
  (nat_lit 345, ⟨(.type "code"), none, (.fields #[(.str "designate" 690), (.str "Charsets.designate" 691), (.str "/claim/cut.py" 692), (.int 259 0), (.int 3 0), (.int 0 0), (.int 0 0), (.int 3 0), (.ref 340), (.bool true), (.int 181 0), (.ref 341), .none, (.ref 342), (.ref 343), (.ref 344), (.int 696 0), (.int 259 0), (.str "/claim/cut.py" 697)]), #[]⟩) ::
  (nat_lit 346, ⟨(.type "function"), none, (.func (mkF (at2 60 4) rfl "designate" "Charsets.designate" 3 .none .none .none (.str "termcore.charsets" 576) none (.ref 345) .none 0)), #[]⟩) ::
  (nat_lit 366, ⟨(.type "code"), none, (.fields #[(.str "lock" 713), (.str "Charsets.lock" 714), (.str "/claim/cut.py" 715), (.int 271 0), (.int 3 0), (.int 0 0), (.int 0 0), (.int 3 0), (.ref 361), (.bool true), (.int 181 0), (.ref 362), .none, (.ref 363), (.ref 364), (.ref 365), (.int 719 0), (.int 271 0), (.str "/claim/cut.py" 720)]), #[]⟩) ::
  (nat_lit 367, ⟨(.type "function"), none, (.func (mkF (at2 60 7) rfl "lock" "Charsets.lock" 3 .none .none .none (.str "termcore.charsets" 576) none (.ref 366) .none 0)), #[]⟩) ::
  (nat_lit 373, ⟨(.type "code"), none, (.fields #[(.str "single" 722), (.str "Charsets.single" 723), (.str "/claim/cut.py" 724), (.int 277 0), (.int 2 0), (.int 0 0), (.int 0 0), (.int 3 0), (.ref 368), (.bool true), (.int 181 0), (.ref 369), .none, (.ref 370), (.ref 371), (.ref 372), (.int 727 0), (.int 277 0), (.str "/claim/cut.py" 728)]), #[]⟩) ::
  (nat_lit 374, ⟨(.type "function"), none, (.func (mkF (at2 60 8) rfl "single" "Charsets.single" 3 .none .none .none (.str "termcore.charsets" 576) none (.ref 373) .none 0)), #[]⟩) ::
  (nat_lit 391, ⟨(.type "dict"), none, (.dict #[sE P "__module__" 655 (.str "termcore.charsets" 576), sE P "__firstlineno__" 659 (.int 239 658), sE P "__init__" 667 (.ref 318), sE P "table" 675 (.ref 325), sE P "reset" 682 (.ref 332), sE P "copy" 689 (.ref 339), sE P "designate" 698 (.ref 346), sE P "shift_in" 705 (.ref 353), sE P "shift_out" 712 (.ref 360), sE P "lock" 721 (.ref 367), sE P "single" 729 (.ref 374), sE P "mapped" 738 (.ref 382), sE P "is_plain" 745 (.ref 389), sE P "__static_attributes__" 751 (.ref 390), sE P "__dict__" 753 (.ref 393), sE P "__weakref__" 755 (.ref 394), sE P "__doc__" 756 .none] 4), #[]⟩) ::
  (nat_lit 392, ⟨(.type "type"), none, (.cls ⟨"Charsets", [(.type "object")], [(.ref 392), (.type "object")], 391, "Charsets", true, [], [], false, none, false⟩), #[none, none, (some (.str "Charsets" 648)), (some (.str "Charsets" 656)), (some (.builtin "object.__new__")), (some (.bool true))]⟩) ::
  (nat_lit 393, ⟨(.type "getset_descriptor"), none, (.fields #[(.str "__dict__" 752), (.ref 392), (.builtin "function.__dict__"), (.builtin "function.__dict__#set")]), #[]⟩) ::
  (nat_lit 394, ⟨(.type "getset_descriptor"), none, (.fields #[(.str "__weakref__" 754), (.ref 392), (.builtin "ExceptionGroup.__weakref__"), .none]), #[]⟩) ::
  (nat_lit 409, ⟨(.type "code"), none, (.fields #[(.str "__init__" 775), (.str "Cursor.__init__" 776), (.str "/claim/cut.py" 777), (.int 289 0), (.int 1 0), (.int 0 0), (.int 0 0), (.int 3 0), (.ref 404), (.bool true), (.int 181 0), (.ref 405), .none, (.ref 406), (.ref 407), (.ref 408), (.int 779 0), (.int 289 0), (.str "/claim/cut.py" 780)]), #[]⟩) ::
  (nat_lit 410, ⟨(.type "function"), none, (.func (mkF (at2 63 0) rfl "__init__" "Cursor.__init__" 3 .none .none .none (.str "termcore.cursor" 759) none (.ref 409) .none 0)), #[]⟩) ::
  (nat_lit 423, ⟨(.type "code"), none, (.fields #[(.str "go" 789), (.str "Cursor.go" 790), (.str "/claim/cut.py" 791), (.int 300 0), (.int 3 0), (.int 0 0), (.int 0 0), (.int 3 0), (.ref 418), (.bool true), (.int 181 0), (.ref 419), .none, (.ref 420), (.ref 421), (.ref 422), (.int 795 0), (.int 300 0), (.str "/claim/cut.py" 796)]), #[]⟩) ::
  (nat_lit 424, ⟨(.type "function"), none, (.func (mkF (at2 63 2) rfl "go" "Cursor.go" 3 .none .none .none (.str "termcore.cursor" 759) none (.ref 423) .none 0)), #[]⟩) ::
  (nat_lit 440, ⟨(.type "dict"), none, (.dict #[sE P "__module__" 770 (.str "termcore.cursor" 759), sE P "__firstlineno__" 774 (.int 287 773), sE P "__init__" 781 (.ref 410), sE P "copy" 788 (.ref 417), sE P "go" 797 (.ref 424), sE P "place" 804 (.ref 431), sE P "equals" 812 (.ref 438), sE P "__static_attributes__" 819 (.ref 439), sE P "__dict__" 821 (.ref 442), sE P "__weakref__" 823 (.ref 443), sE P "__doc__" 824 .none] 4), #[]⟩) ::
  (nat_lit 441, ⟨(.type "type"), none, (.cls ⟨"Cursor", [(.type "object")], [(.ref 441), (.type "object")], 440, "Cursor", true, [], [], false, none, false⟩), #[none, none, (some (.str "Cursor" 763)), (some (.str "Cursor" 771)), (some (.builtin "object.__new__")), (some (.bool true))]⟩) ::
  (nat_lit 442, ⟨(.type "getset_descriptor"), none, (.fields #[(.str "__dict__" 820), (.ref 441), (.builtin "function.__dict__"), (.builtin "function.__dict__#set")]), #[]⟩) ::
  (nat_lit 443, ⟨(.type "getset_descriptor"), none, (.fields #[(.str "__weakref__" 822), (.ref 441), (.builtin "ExceptionGroup.__weakref__"), .none]), #[]⟩) ::
  (nat_lit 458, ⟨(.type "code"), none, (.fields #[(.str "__init__" 839), (.str "Margins.__init__" 840), (.str "/claim/cut.py" 841), (.int 312 0), (.int 3 0), (.int 0 0), (.int 0 0), (.int 3 0), (.ref 453), (.bool true), (.int 181 0), (.ref 454), .none, (.ref 455), (.ref 456), (.ref 457), (.int 845 0), (.int 312 0), (.str "/claim/cut.py" 846)]), #[]⟩) ::
  (nat_lit 459, ⟨(.type "function"), none, (.func (mkF (at2 64 0) rfl "__init__" "Margins.__init__" 3 .none .none .none (.str "termcore.cursor" 759) none (.ref 458) .none 0)), #[]⟩) ::
  (nat_lit 573, ⟨(.type "dict"), none, (.dict #[sE P "__module__" 834 (.str "termcore.cursor" 759), sE P "__firstlineno__" 838 (.int 310 837), sE P "__init__" 847 (.ref 459), sE P "set_rows" 856 (.ref 466), sE P "set_columns" 865 (.ref 473), sE P "clear_rows" 872 (.ref 480), sE P "clear_columns" 879 (.ref 487), sE P "resize" 888 (.ref 494), sE P "area" 895 (.ref 501), sE P "holds" 904 (.ref 508), sE P "holds_row" 912 (.ref 515), sE P "holds_column" 920 (.ref 522), sE P "is_whole_width" 927 (.ref 529), sE P "is_whole" 934 (.ref 536), sE P "first_row" 942 (.ref 543), sE P "last_row" 950 (.ref 550), sE P "first_column" 958 (.ref 557), sE P "last_column" 966 (.ref 564), sE P "copy" 973 (.ref 571), sE P "__static_attributes__" 980 (.ref 572), sE P "__dict__" 982 (.ref 575), sE P "__weakref__" 984 (.ref 576), sE P "__doc__" 985 .none] 4), #[]⟩) ::
  (nat_lit 574, ⟨(.type "type"), none, (.cls ⟨"Margins", [(.type "object")], [(.ref 574), (.type "object")], 573, "Margins", true, [], [], false, none, false⟩), #[none, none, (some (.str "Margins" 827)), (some (.str "Margins" 835)), (some (.builtin "object.__new__")), (some (.bool true))]⟩) ::
  (nat_lit 575, ⟨(.type "getset_descriptor"), none, (.fields #[(.str "__dict__" 981), (.ref 574), (.builtin "function.__dict__"), (.builtin "function.__dict__#set")]), #[]⟩) ::
  (nat_lit 576, ⟨(.type "getset_descriptor"), none, (.fields #[(.str "__weakref__" 983), (.ref 574), (.builtin "ExceptionGroup.__weakref__"), .none]), #[]⟩) ::
  (nat_lit 591, ⟨(.type "code"), none, (.fields #[(.str "__init__" 1000), (.str "Tabs.__init__" 1001), (.str "/claim/cut.py" 1002), (.int 369 0), (.int 2 0), (.int 0 0), (.int 0 0), (.int 3 0), (.ref 586), (.bool true), (.int 181 0), (.ref 587), .none, (.ref 588), (.ref 589), (.ref 590), (.int 1005 0), (.int 369 0), (.str "/claim/cut.py" 1006)]), #[]⟩) ::
  (nat_lit 592, ⟨(.type "function"), none, (.func (mkF (at2 65 0) rfl "__init__" "Tabs.__init__" 3 .none .none .none (.str "termcore.cursor" 759) none (.ref 591) .none 0)), #[]⟩) ::
  (nat_lit 598, ⟨(.type "code"), none, (.fields #[(.str "put_eighths" 1008), (.str "Tabs.put_eighths" 1009), (.str "/claim/cut.py" 1010), (.int 374 0), (.int 2 0), (.int 0 0), (.int 0 0), (.int 3 0), (.ref 593), (.bool true), (.int 181 0), (.ref 594), .none, (.ref 595), (.ref 596), (.ref 597), (.int 1014 0), (.int 374 0), (.str "/claim/cut.py" 1015)]), #[]⟩) ::
  (nat_lit 599, ⟨(.type "function"), none, (.func (mkF (at2 65 1) rfl "put_eighths" "Tabs.put_eighths" 3 .none .none .none (.str "termcore.cursor" 759) none (.ref 598) .none 0)), #[]⟩) ::
  (nat_lit 605, ⟨(.type "code"), none, (.fields #[(.str "set" 1017), (.str "Tabs.set" 1018), (.str "/claim/cut.py" 1019), (.int 379 0), (.int 2 0), (.int 0 0), (.int 0 0), (.int 3 0), (.ref 600), (.bool true), (.int 181 0), (.ref 601), .none, (.ref 602), (.ref 603), (.ref 604), (.int 1022 0), (.int 379 0), (.str "/claim/cut.py" 1023)]), #[]⟩) ::
  (nat_lit 606, ⟨(.type "function"), none, (.func (mkF (at2 65 2) rfl "set" "Tabs.set" 3 .none .none .none (.str "termcore.cursor" 759) none (.ref 605) .none 0)), #[]⟩) ::
  (nat_lit 633, ⟨(.type "code"), none, (.fields #[(.str "told" 1047), (.str "Tabs.told" 1048), (.str "/claim/cut.py" 1049), (.int 393 0), (.int 1 0), (.int 0 0), (.int 0 0), (.int 3 0), (.ref 628), (.bool true), (.int 181 0), (.ref 629), .none, (.ref 630), (.ref 631), (.ref 632), (.int 1051 0), (.int 393 0), (.str "/claim/cut.py" 1052)]), #[]⟩) ::
  (nat_lit 634, ⟨(.type "function"), none, (.func (mkF (at2 65 6) rfl "told" "Tabs.told" 3 .none .none .none (.str "termcore.cursor" 759) none (.ref 633) .none 0)), #[]⟩) ::
  (nat_lit 640, ⟨(.type "code"), none, (.fields #[(.str "put" 1054), (.str "Tabs.put" 1055), (.str "/claim/cut.py" 1056), (.int 396 0), (.int 2 0), (.int 0 0), (.int 0 0), (.int 3 0), (.ref 635), (.bool true), (.int 181 0), (.ref 636), .none, (.ref 637), (.ref 638), (.ref 639), (.int 1060 0), (.int 396 0), (.str "/claim/cut.py" 1061)]), #[]⟩) ::
  (nat_lit 641, ⟨(.type "function"), none, (.func (mkF (at2 65 7) rfl "put" "Tabs.put" 3 .none .none .none (.str "termcore.cursor" 759) none (.ref 640) .none 0)), #[]⟩) ::
  (nat_lit 672, ⟨(.type "dict"), none, (.dict #[sE P "__module__" 995 (.str "termcore.cursor" 759), sE P "__firstlineno__" 999 (.int 367 998), sE P "__init__" 1007 (.ref 592), sE P "put_eighths" 1016 (.ref 599), sE P "set" 1024 (.ref 606), sE P "clear" 1032 (.ref 613), sE P "clear_all" 1039 (.ref 620), sE P "reset" 1046 (.ref 627), sE P "told" 1053 (.ref 634), sE P "put" 1062 (.ref 641), sE P "next_from" 1071 (.ref 648), sE P "back_from" 1081 (.ref 656), sE P "resize" 1089 (.ref 663), sE P "copy" 1096 (.ref 670), sE P "__static_attributes__" 1099 (.ref 671), sE P "__dict__" 1101 (.ref 674), sE P "__weakref__" 1103 (.ref 675), sE P "__doc__" 1104 .none] 4), #[]⟩) ::
  (nat_lit 673, ⟨(.type "type"), none, (.cls ⟨"Tabs", [(.type "object")], [(.ref 673), (.type "object")], 672, "Tabs", true, [], [], false, none, false⟩), #[none, none, (some (.str "Tabs" 988)), (some (.str "Tabs" 996)), (some (.builtin "object.__new__")), (some (.bool true))]⟩) ::
  (nat_lit 674, ⟨(.type "getset_descriptor"), none, (.fields #[(.str "__dict__" 1100), (.ref 673), (.builtin "function.__dict__"), (.builtin "function.__dict__#set")]), #[]⟩) ::
  (nat_lit 675, ⟨(.type "getset_descriptor"), none, (.fields #[(.str "__weakref__" 1102), (.ref 673), (.builtin "ExceptionGroup.__weakref__"), .none]), #[]⟩) ::
  (nat_lit 678, ⟨(.type "tuple"), none, (.seq #[(.str "single" 1109), (.str "wide" 1110), (.str "top" 1111), (.str "bottom" 1112)] 0), #[]⟩) ::
  (nat_lit 684, ⟨(.type "code"), none, (.fields #[(.str "line_blanks" 1114), (.str "line_blanks" 1115), (.str "/claim/cut.py" 1116), (.int 414 0), (.int 2 0), (.int 0 0), (.int 0 0), (.int 3 0), (.ref 679), (.bool true), (.int 181 0), (.ref 680), .none, (.ref 681), (.ref 682), (.ref 683), (.int 1119 0), (.int 414 0), (.str "/claim/cut.py" 1120)]), #[]⟩) ::
  (nat_lit 685, ⟨(.type "function"), none, (.func (mkF (at1 68) rfl "line_blanks" "line_blanks" 3 .none .none .none (.str "termcore.lines" 1107) none (.ref 684) .none 0)), #[]⟩) ::
  (nat_lit 726, ⟨(.type "code"), none, (.fields #[(.str "__init__" 1169), (.str "Line.__init__" 1170), (.str "/claim/cut.py" 1171), (.int 440 0), (.int 3 0), (.int 0 0), (.int 0 0), (.int 3 0), (.ref 721), (.bool true), (.int 181 0), (.ref 722), .none, (.ref 723), (.ref 724), (.ref 725), (.int 1175 0), (.int 440 0), (.str "/claim/cut.py" 1176)]), #[]⟩) ::
  (nat_lit 727, ⟨(.type "function"), none, (.func (mkF (at2 73 0) rfl "__init__" "Line.__init__" 3 .none .none .none (.str "termcore.lines" 1107) none (.ref 726) .none 0)), #[]⟩) ::
  (nat_lit 735, ⟨(.type "property"), none, (.fields #[(.ref 734), .none, .none, .none, (.str "columns" 1185), (.bool false)]), #[]⟩) ::
  (nat_lit 837, ⟨(.type "dict"), none, (.dict #[sE P "__module__" 1164 (.str "termcore.lines" 1107), sE P "__firstlineno__" 1168 (.int 438 1167), sE P "__init__" 1177 (.ref 727), sE P "columns" 1185 (.ref 735), sE P "shown" 1192 (.ref 742), sE P "part" 1200 (.ref 749), sE P "put" 1209 (.ref 756), sE P "put_cells" 1219 (.ref 763), sE P "erase" 1232 (.ref 771), sE P "shift" 1249 (.ref 778), sE P "insert" 1260 (.ref 785), sE P "delete" 1271 (.ref 792), sE P "fill" 1281 (.ref 799), sE P "copy" 1288 (.ref 806), sE P "codes" 1298 (.ref 814), sE P "used" 1305 (.ref 821), sE P "resized" 1314 (.ref 828), sE P "equals" 1322 (.ref 835), sE P "__static_attributes__" 1326 (.ref 836), sE P "__dict__" 1328 (.ref 839), sE P "__weakref__" 1330 (.ref 840), sE P "__doc__" 1331 .none] 4), #[]⟩) ::
  (nat_lit 838, ⟨(.type "type"), none, (.cls ⟨"Line", [(.type "object")], [(.ref 838), (.type "object")], 837, "Line", true, [], [], false, none, false⟩), #[none, none, (some (.str "Line" 1157)), (some (.str "Line" 1165)), (some (.builtin "object.__new__")), (some (.bool true))]⟩) ::
  (nat_lit 839, ⟨(.type "getset_descriptor"), none, (.fields #[(.str "__dict__" 1327), (.ref 838), (.builtin "function.__dict__"), (.builtin "function.__dict__#set")]), #[]⟩) ::
  (nat_lit 840, ⟨(.type "getset_descriptor"), none, (.fields #[(.str "__weakref__" 1329), (.ref 838), (.builtin "ExceptionGroup.__weakref__"), .none]), #[]⟩) ::
  (nat_lit 853, ⟨(.type "code"), none, (.fields #[(.str "__init__" 1348), (.str "Grid.__init__" 1349), (.str "/claim/cut.py" 1350), (.int 524 0), (.int 3 0), (.int 0 0), (.int 0 0), (.int 3 0), (.ref 850), (.bool true), (.int 181 0), (.ref 851), .none, .none, .none, (.ref 852), (.int 1351 0), (.int 524 0), (.str "/claim/cut.py" 1352)]), #[]⟩) ::
  (nat_lit 854, ⟨(.type "function"), none, (.func (mkF (at2 75 0) rfl "__init__" "Grid.__init__" 3 .none .none .none (.str "termcore.grid" 1334) none (.ref 853) .none 0)), #[]⟩) ::
  (nat_lit 986, ⟨(.type "dict"), none, (.dict #[sE P "__module__" 1343 (.str "termcore.grid" 1334), sE P "__firstlineno__" 1347 (.int 522 1346), sE P "__init__" 1353 (.ref 854), sE P "line" 1361 (.ref 861), sE P "whole_area" 1368 (.ref 868), sE P "is_wide" 1376 (.ref 875), sE P "fresh" 1382 (.ref 880), sE P "part_above" 1390 (.ref 887), sE P "scroll_up" 1407 (.ref 894), sE P "scroll_down" 1417 (.ref 901), sE P "unwrap" 1426 (.ref 908), sE P "insert_columns" 1437 (.ref 915), sE P "delete_columns" 1448 (.ref 922), sE P "cells_of" 1458 (.ref 929), sE P "put_cells" 1472 (.ref 936), sE P "erase_area" 1487 (.ref 944), sE P "fill_area" 1496 (.ref 951), sE P "copy_area" 1506 (.ref 958), sE P "cells_in" 1514 (.ref 965), sE P "copy" 1521 (.ref 972), sE P "equals" 1529 (.ref 979), sE P "text" 1535 (.ref 984), sE P "__static_attributes__" 1539 (.ref 985), sE P "__dict__" 1541 (.ref 988), sE P "__weakref__" 1543 (.ref 989), sE P "__doc__" 1544 .none] 4), #[]⟩) ::
  (nat_lit 987, ⟨(.type "type"), none, (.cls ⟨"Grid", [(.type "object")], [(.ref 987), (.type "object")], 986, "Grid", true, [], [], false, none, false⟩), #[none, none, (some (.str "Grid" 1336)), (some (.str "Grid" 1344)), (some (.builtin "object.__new__")), (some (.bool true))]⟩) ::
  (nat_lit 988, ⟨(.type "getset_descriptor"), none, (.fields #[(.str "__dict__" 1540), (.ref 987), (.builtin "function.__dict__"), (.builtin "function.__dict__#set")]), #[]⟩) ::
  (nat_lit 989, ⟨(.type "getset_descriptor"), none, (.fields #[(.str "__weakref__" 1542), (.ref 987), (.builtin "ExceptionGroup.__weakref__"), .none]), #[]⟩) ::
  (nat_lit 1006, ⟨(.type "tuple"), none, (.seq #[(.str "wide" 1564), (.str "top" 1565), (.str "bottom" 1566)] 0), #[]⟩) ::
  (nat_lit 1014, ⟨(.type "tuple"), none, (.seq #[.none] 0), #[]⟩) ::
  (nat_lit 1020, ⟨(.type "code"), none, (.fields #[(.str "__init__" 1580), (.str "Screen.__init__" 1581), (.str "/claim/cut.py" 1582), (.int 633 0), (.int 6 0), (.int 0 0), (.int 0 0), (.int 3 0), (.ref 1015), (.bool true), (.int 181 0), (.ref 1016), .none, (.ref 1017), (.ref 1018), (.ref 1019), (.int 1589 0), (.int 633 0), (.str "/claim/cut.py" 1590)]), #[]⟩) ::
  (nat_lit 1021, ⟨(.type "function"), none, (.func (mkF (at2 80 0) rfl "__init__" "Screen.__init__" 3 (.ref 1014) .none .none (.str "termcore.screen" 1562) none (.ref 1020) .none 0)), #[]⟩) ::
  (nat_lit 1270, ⟨(.type "dict"), none, (.dict #[sE P "__module__" 1575 (.str "termcore.screen" 1562), sE P "__firstlineno__" 1579 (.int 631 1578), sE P "__init__" 1591 (.ref 1021), sE P "line" 1598 (.ref 1028), sE P "width_of_line" 1606 (.ref 1035), sE P "right_bound" 1614 (.ref 1042), sE P "left_bound" 1621 (.ref 1049), sE P "is_between_sides" 1628 (.ref 1056), sE P "is_whole" 1635 (.ref 1063), sE P "place" 1644 (.ref 1070), sE P "put_code" 1652 (.ref 1077), sE P "place_ahead" 1661 (.ref 1084), sE P "is_joined" 1669 (.ref 1091), sE P "join" 1683 (.ref 1098), sE P "put_sign" 1692 (.ref 1105), sE P "advance" 1702 (.ref 1112), sE P "wrap" 1712 (.ref 1119), sE P "repeat" 1720 (.ref 1126), sE P "scroll_up" 1730 (.ref 1133), sE P "scroll_down" 1738 (.ref 1140), sE P "index" 1745 (.ref 1147), sE P "reverse_index" 1752 (.ref 1154), sE P "keep_within_line" 1759 (.ref 1161), sE P "carriage_return" 1766 (.ref 1168), sE P "next_line" 1773 (.ref 1175), sE P "backspace" 1780 (.ref 1182), sE P "tab" 1789 (.ref 1190), sE P "back_tab" 1798 (.ref 1198), sE P "save_cursor" 1805 (.ref 1205), sE P "restore_cursor" 1812 (.ref 1212), sE P "home" 1819 (.ref 1219), sE P "set_margins" 1828 (.ref 1226), sE P "set_side_margins" 1837 (.ref 1233), sE P "line_size" 1845 (.ref 1240), sE P "align" 1852 (.ref 1247), sE P "soft_reset" 1859 (.ref 1254), sE P "full_reset" 1866 (.ref 1261), sE P "blank" 1873 (.ref 1268), sE P "__static_attributes__" 1887 (.ref 1269), sE P "__dict__" 1889 (.ref 1272), sE P "__weakref__" 1891 (.ref 1273), sE P "__doc__" 1892 .none] 4), #[]⟩) ::
  (nat_lit 1271, ⟨(.type "type"), none, (.cls ⟨"Screen", [(.type "object")], [(.ref 1271), (.type "object")], 1270, "Screen", true, [], [], false, none, false⟩), #[none, none, (some (.str "Screen" 1568)), (some (.str "Screen" 1576)), (some (.builtin "object.__new__")), (some (.bool true))]⟩) ::
  (nat_lit 1272, ⟨(.type "getset_descriptor"), none, (.fields #[(.str "__dict__" 1888), (.ref 1271), (.builtin "function.__dict__"), (.builtin "function.__dict__#set")]), #[]⟩) ::
  (nat_lit 1273, ⟨(.type "getset_descriptor"), none, (.fields #[(.str "__weakref__" 1890), (.ref 1271), (.builtin "ExceptionGroup.__weakref__"), .none]), #[]⟩) ::
  (nat_lit 1279, ⟨(.type "code"), none, (.fields #[(.str "_law_deck" 1897), (.str "_law_deck" 1898), (.str "/claim/cut.py" 1899), (.int 796 0), (.int 1 0), (.int 0 0), (.int 0 0), (.int 3 0), (.ref 1276), (.bool true), (.int 181 0), (.ref 1277), .none, .none, .none, (.ref 1278), (.int 1900 0), (.int 796 0), (.str "/claim/cut.py" 1901)]), #[]⟩) ::
  (nat_lit 1280, ⟨(.type "function"), none, (.func (mkF (at1 82) rfl "_law_deck" "_law_deck" 3 .none .none .none (.str "law_og0294_01" 1895) none (.ref 1279) .none 0)), #[]⟩) ::
  (nat_lit 1286, ⟨(.type "code"), none, (.fields #[(.str "_law_draw" 1903), (.str "_law_draw" 1904), (.str "/claim/cut.py" 1905), (.int 801 0), (.int 2 0), (.int 0 0), (.int 0 0), (.int 3 0), (.ref 1281), (.bool true), (.int 181 0), (.ref 1282), .none, (.ref 1283), (.ref 1284), (.ref 1285), (.int 1910 0), (.int 801 0), (.str "/claim/cut.py" 1911)]), #[]⟩) ::
  (nat_lit 1287, ⟨(.type "function"), none, (.func (mkF (at1 83) rfl "_law_draw" "_law_draw" 3 .none .none .none (.str "law_og0294_01" 1895) none (.ref 1286) .none 0)), #[]⟩) ::
  (nat_lit 1293, ⟨(.type "code"), none, (.fields #[(.str "_law_pick" 1913), (.str "_law_pick" 1914), (.str "/claim/cut.py" 1915), (.int 813 0), (.int 2 0), (.int 0 0), (.int 0 0), (.int 3 0), (.ref 1288), (.bool true), (.int 181 0), (.ref 1289), .none, (.ref 1290), (.ref 1291), (.ref 1292), (.int 1918 0), (.int 813 0), (.str "/claim/cut.py" 1919)]), #[]⟩) ::
  (nat_lit 1294, ⟨(.type "function"), none, (.func (mkF (at1 84) rfl "_law_pick" "_law_pick" 3 .none .none .none (.str "law_og0294_01" 1895) none (.ref 1293) .none 0)), #[]⟩) ::
  (nat_lit 1298, ⟨(.type "code"), none, (.fields #[(.str "_law_screen" 1921), (.str "_law_screen" 1922), (.str "/claim/cut.py" 1923), (.int 815 0), (.int 3 0), (.int 0 0), (.int 0 0), (.int 3 0), (.ref 1295), (.bool true), (.int 181 0), (.ref 1296), .none, .none, .none, (.ref 1297), (.int 1924 0), (.int 815 0), (.str "/claim/cut.py" 1925)]), #[]⟩) ::
  (nat_lit 1299, ⟨(.type "function"), none, (.func (mkF (at1 85) rfl "_law_screen" "_law_screen" 3 .none .none .none (.str "law_og0294_01" 1895) none (.ref 1298) .none 0)), #[]⟩) ::
  (nat_lit 1305, ⟨(.type "code"), none, (.fields #[(.str "_law_state" 1927), (.str "_law_state" 1928), (.str "/claim/cut.py" 1929), (.int 833 0), (.int 1 0), (.int 0 0), (.int 0 0), (.int 3 0), (.ref 1300), (.bool true), (.int 181 0), (.ref 1301), .none, (.ref 1302), (.ref 1303), (.ref 1304), (.int 1934 0), (.int 833 0), (.str "/claim/cut.py" 1935)]), #[]⟩) ::
  (nat_lit 1306, ⟨(.type "function"), none, (.func (mkF (at1 86) rfl "_law_state" "_law_state" 3 .none .none .none (.str "law_og0294_01" 1895) none (.ref 1305) .none 0)), #[]⟩) ::
  (nat_lit 1310, ⟨(.type "code"), none, (.fields #[(.str "_law_bits" 1937), (.str "_law_bits" 1938), (.str "/claim/cut.py" 1939), (.int 837 0), (.int 1 0), (.int 0 0), (.int 0 0), (.int 3 0), (.ref 1307), (.bool true), (.int 181 0), (.ref 1308), .none, .none, .none, (.ref 1309), (.int 1940 0), (.int 837 0), (.str "/claim/cut.py" 1941)]), #[]⟩) ::
  (nat_lit 1311, ⟨(.type "function"), none, (.func (mkF (at1 87) rfl "_law_bits" "_law_bits" 3 .none .none .none (.str "law_og0294_01" 1895) none (.ref 1310) .none 0)), #[]⟩) ::
  (nat_lit 1315, ⟨(.type "code"), none, (.fields #[(.str "_law_decimal" 1943), (.str "_law_decimal" 1944), (.str "/claim/cut.py" 1945), (.int 839 0), (.int 1 0), (.int 0 0), (.int 0 0), (.int 3 0), (.ref 1312), (.bool true), (.int 181 0), (.ref 1313), .none, .none, .none, (.ref 1314), (.int 1946 0), (.int 839 0), (.str "/claim/cut.py" 1947)]), #[]⟩) ::
  (nat_lit 1316, ⟨(.type "function"), none, (.func (mkF (at1 88) rfl "_law_decimal" "_law_decimal" 3 .none .none .none (.str "law_og0294_01" 1895) none (.ref 1315) .none 0)), #[]⟩) ::
  (nat_lit 1320, ⟨(.type "code"), none, (.fields #[(.str "_law_fields" 1949), (.str "_law_fields" 1950), (.str "/claim/cut.py" 1951), (.int 841 0), (.int 1 0), (.int 0 0), (.int 0 0), (.int 3 0), (.ref 1317), (.bool true), (.int 181 0), (.ref 1318), .none, .none, .none, (.ref 1319), (.int 1952 0), (.int 841 0), (.str "/claim/cut.py" 1953)]), #[]⟩) ::
  (nat_lit 1321, ⟨(.type "function"), none, (.func (mkF (at1 89) rfl "_law_fields" "_law_fields" 3 .none .none .none (.str "law_og0294_01" 1895) none (.ref 1320) .none 0)), #[]⟩) ::
  (nat_lit 1327, ⟨(.type "code"), none, (.fields #[(.str "_law_put" 1955), (.str "_law_put" 1956), (.str "/claim/cut.py" 1957), (.int 848 0), (.int 4 0), (.int 0 0), (.int 0 0), (.int 3 0), (.ref 1322), (.bool true), (.int 181 0), (.ref 1323), .none, (.ref 1324), (.ref 1325), (.ref 1326), (.int 1968 0), (.int 848 0), (.str "/claim/cut.py" 1969)]), #[]⟩) ::
  (nat_lit 1328, ⟨(.type "function"), none, (.func (mkF (at1 90) rfl "_law_put" "_law_put" 3 .none .none .none (.str "law_og0294_01" 1895) none (.ref 1327) .none 0)), #[]⟩) ::
  (nat_lit 1334, ⟨(.type "code"), none, (.fields #[(.str "_law_spoilt" 1971), (.str "_law_spoilt" 1972), (.str "/claim/cut.py" 1973), (.int 857 0), (.int 2 0), (.int 0 0), (.int 0 0), (.int 3 0), (.ref 1329), (.bool true), (.int 181 0), (.ref 1330), .none, (.ref 1331), (.ref 1332), (.ref 1333), (.int 1979 0), (.int 857 0), (.str "/claim/cut.py" 1980)]), #[]⟩) ::
  (nat_lit 1335, ⟨(.type "function"), none, (.func (mkF (at1 91) rfl "_law_spoilt" "_law_spoilt" 3 .none .none .none (.str "law_og0294_01" 1895) none (.ref 1334) .none 0)), #[]⟩) ::
  (nat_lit 1339, ⟨(.type "code"), none, (.fields #[(.str "_law_tabs_right" 1982), (.str "_law_tabs_right" 1983), (.str "/claim/cut.py" 1984), (.int 877 0), (.int 2 0), (.int 0 0), (.int 0 0), (.int 3 0), (.ref 1336), (.bool true), (.int 181 0), (.ref 1337), .none, .none, .none, (.ref 1338), (.int 1985 0), (.int 877 0), (.str "/claim/cut.py" 1986)]), #[]⟩) ::
  (nat_lit 1340, ⟨(.type "function"), none, (.func (mkF (at1 92) rfl "_law_tabs_right" "_law_tabs_right" 3 .none .none .none (.str "law_og0294_01" 1895) none (.ref 1339) .none 0)), #[]⟩) ::
  (nat_lit 1346, ⟨(.type "code"), none, (.fields #[(.str "law" 1988), (.str "law" 1989), (.str "/claim/cut.py" 1990), (.int 886 0), (.int 1 0), (.int 0 0), (.int 0 0), (.int 3 0), (.ref 1341), (.bool true), (.int 181 0), (.ref 1342), .none, (.ref 1343), (.ref 1344), (.ref 1345), (.int 1998 0), (.int 886 0), (.str "/claim/cut.py" 1999)]), #[]⟩) ::
  (nat_lit 1347, ⟨(.type "function"), none, (.func (mkF (at1 93) rfl "law" "law" 3 .none .none .none (.str "law_og0294_01" 1895) none (.ref 1346) .none 0)), #[]⟩) :: []
noncomputable def KA : List Addr := [nat_lit 2, nat_lit 3, nat_lit 22, nat_lit 39, nat_lit 40, nat_lit 41, nat_lit 52, nat_lit 53, nat_lit 61, nat_lit 62, nat_lit 68, nat_lit 69, nat_lit 75, nat_lit 76, nat_lit 82, nat_lit 83, nat_lit 89, nat_lit 90, nat_lit 96, nat_lit 97, nat_lit 103, nat_lit 104, nat_lit 115, nat_lit 116, nat_lit 122, nat_lit 123, nat_lit 127, nat_lit 128, nat_lit 132, nat_lit 133, nat_lit 139, nat_lit 140, nat_lit 144, nat_lit 145, nat_lit 151, nat_lit 152, nat_lit 156, nat_lit 157, nat_lit 158, nat_lit 159, nat_lit 160, nat_lit 166, nat_lit 167, nat_lit 180, nat_lit 181, nat_lit 187, nat_lit 188, nat_lit 194, nat_lit 195, nat_lit 197, nat_lit 198, nat_lit 199, nat_lit 200, nat_lit 219, nat_lit 220, nat_lit 233, nat_lit 234, nat_lit 250, nat_lit 251, nat_lit 252, nat_lit 253, nat_lit 268, nat_lit 311, nat_lit 317, nat_lit 318, nat_lit 331, nat_lit 332, nat_lit 345, nat_lit 346, nat_lit 366, nat_lit 367, nat_lit 373, nat_lit 374, nat_lit 391, nat_lit 392, nat_lit 393, nat_lit 394, nat_lit 409, nat_lit 410, nat_lit 423, nat_lit 424, nat_lit 440, nat_lit 441, nat_lit 442, nat_lit 443, nat_lit 458, nat_lit 459, nat_lit 573, nat_lit 574, nat_lit 575, nat_lit 576, nat_lit 591, nat_lit 592, nat_lit 598, nat_lit 599, nat_lit 605, nat_lit 606, nat_lit 633, nat_lit 634, nat_lit 640, nat_lit 641, nat_lit 672, nat_lit 673, nat_lit 674, nat_lit 675, nat_lit 678, nat_lit 684, nat_lit 685, nat_lit 726, nat_lit 727, nat_lit 735, nat_lit 837, nat_lit 838, nat_lit 839, nat_lit 840, nat_lit 853, nat_lit 854, nat_lit 986, nat_lit 987, nat_lit 988, nat_lit 989, nat_lit 1006, nat_lit 1014, nat_lit 1020, nat_lit 1021, nat_lit 1270, nat_lit 1271, nat_lit 1272, nat_lit 1273, nat_lit 1279, nat_lit 1280, nat_lit 1286, nat_lit 1287, nat_lit 1293, nat_lit 1294, nat_lit 1298, nat_lit 1299, nat_lit 1305, nat_lit 1306, nat_lit 1310, nat_lit 1311, nat_lit 1315, nat_lit 1316, nat_lit 1320, nat_lit 1321, nat_lit 1327, nat_lit 1328, nat_lit 1334, nat_lit 1335, nat_lit 1339, nat_lit 1340, nat_lit 1346, nat_lit 1347]
noncomputable def ents : Obj → List DictEntry
  | ⟨_, _, .dict ⟨l⟩ _, _⟩ => l
  | _ => []
noncomputable def flds : Obj → List Value
  | ⟨_, _, .fields ⟨l⟩, _⟩ => l
  | _ => []
noncomputable def x3 (P : Params) (k : Nat) (n : Str) (t : Tok) : Obj := ⟨.type "dict", none, .dict ⟨sE P "__name__" 165 (.str n t) :: ((ents (o3 P)).tail.take (k - 1))⟩ k, #[]⟩
noncomputable def x12 (P : Params) (k : Nat) : Obj := ⟨.none, none, .fields ⟨(flds o12).take k⟩, #[]⟩
noncomputable def cutT (n : Nat) (x y : Obj) (t : BT) : BT :=
  BT.rec (motive := fun _ => Nat → Nat → BT) (fun _ _ => .nil) (fun o _ _ l r a b => match Nat.blt b n with
    | true => .node (match Nat.beq b 3 with | true => x | false => match Nat.beq b 12 with | true => y | false => o) (l (Nat.mul 2 a) (Nat.add a b)) (r (Nat.mul 2 a) (Nat.add (Nat.mul 2 a) b))
    | false => .nil) t 1 0
noncomputable def trM (P : Params) : BT := cutT 207 (x3 P 48 "termcore.cellwidths" 481) (x12 P 63) (trF P)
noncomputable def trA (P : Params) : BT := cutT 446 (x3 P 68 "termcore.cursor" 759) (x12 P 99) (trF P)
noncomputable def trB (P : Params) : BT := cutT 678 (x3 P 70 "termcore.cursor" 759) (x12 P 105) (trF P)
noncomputable def trC (P : Params) : BT := cutT 843 (x3 P 77 "termcore.lines" 1107) (x12 P 123) (trF P)
noncomputable def trD (P : Params) : BT := cutT 1006 (x3 P 80 "termcore.grid" 1334) (x12 P 132) (trF P)
noncomputable def trE (P : Params) : BT := cutT 1276 (x3 P 82 "termcore.screen" 1562) (x12 P 135) (trF P)
end
section
noncomputable def env1 : Env := { scope := pw.main.scope, locals := mainNs, globals := mainNs, cells := [], code := .ref 13, frame := some 14 }
noncomputable def bodyAll : List Stmt := behindTheImports pw
noncomputable def l1 : List Stmt := bodyAll.take 42
noncomputable def r1 : List Stmt := bodyAll.drop 42
noncomputable def l2 : List Stmt := r1.take 22
noncomputable def r2 : List Stmt := r1.drop 22
noncomputable def l3 : List Stmt := r2.take 2
noncomputable def r3 : List Stmt := r2.drop 2
noncomputable def l4 : List Stmt := r3.take 8
noncomputable def r4 : List Stmt := r3.drop 8
noncomputable def l5 : List Stmt := r4.take 4
noncomputable def r5 : List Stmt := r4.drop 4
noncomputable def l6 : List Stmt := r5.take 3
noncomputable def r6 : List Stmt := r5.drop 3
noncomputable def cE : Code := .body bodyAll env1
noncomputable abbrev p00 : Pos := ⟨0, 0, 0, 0⟩
noncomputable abbrev ann6 : Option Value := some (.ref 6)

theorem run_pre (w : World) (os : OsState) : topGo treeTable pw w 11 ann6 12 ⟨boot_heap w.params, #[], boot_drawn, boot_toks, os⟩ (topStub pw) =
    some (⟨hpS w.params, #[], {}, 187, os⟩, ⟨denote treeTable cE, cE, p00, [topFrame p00]⟩) := by
  rw [PySem.W.Fast.te15667345088766844465, PySem.W.Fast.te14364793385576792824, PySem.W.Fast.te11892475500146522536]
  kernel_rfl
theorem run_block (w : World) (os : OsState) : segRun treeTable pw w 11 ann6 1 1 ⟨hpS w.params, #[], {}, 187, os⟩ (blockOf bodyAll env1 cE p00 [topFrame p00]) =
    some (.next, (SharedT.mk (trS w.params) 15 {} #[] {} 187 os).abs, cE, p00) := by
  rw [PySem.W.Fast.te14374325043358763698, PySem.W.Fast.te14364793385576792824]
  kernel_rfl
theorem run_1f : ∀ (w : World) (os : OsState), segRunT treeTable pw (w.withFollow "special-get-raises" false) 11 ann6 1 1554 ⟨trS w.params, 15, {}, #[], {}, 187, os⟩ (piecesOf l1 env1 cE p00 [topFrame p00]) =
    some (.next, ⟨trM w.params, 207, {}, #[], {}, 491, os⟩, cE, ⟨139, 14, 139, 25⟩) := by
  rw [PySem.W.Fast.te10110043849684766642, PySem.W.Fast.te14364793385576792824]
  intro w os
  kernel_rfl
theorem run_1t : ∀ (w : World) (os : OsState), segRunT treeTable pw (w.withFollow "special-get-raises" true) 11 ann6 1 1554 ⟨trS w.params, 15, {}, #[], {}, 187, os⟩ (piecesOf l1 env1 cE p00 [topFrame p00]) =
    some (.next, ⟨trM w.params, 207, {}, #[], {}, 491, os⟩, cE, ⟨139, 14, 139, 25⟩) := by
  rw [PySem.W.Fast.te10110043849684766642, PySem.W.Fast.te14364793385576792824]
  intro w os
  kernel_rfl
theorem run_1 (w : World) : ∀ os : OsState, segRunT treeTable pw w 11 ann6 1 1554 ⟨trS w.params, 15, {}, #[], {}, 187, os⟩ (piecesOf l1 env1 cE p00 [topFrame p00]) =
    some (.next, ⟨trM w.params, 207, {}, #[], {}, 491, os⟩, cE, ⟨139, 14, 139, 25⟩) :=
  byRow2 "special-get-raises" (P := fun w => ∀ os : OsState, segRunT treeTable pw w 11 ann6 1 1554 ⟨trS w.params, 15, {}, #[], {}, 187, os⟩ (piecesOf l1 env1 cE p00 [topFrame p00]) =
    some (.next, ⟨trM w.params, 207, {}, #[], {}, 491, os⟩, cE, ⟨139, 14, 139, 25⟩)) (fun w os => run_1f w os) (fun w os => run_1t w os) w
theorem run_2 (w : World) (os : OsState) : segRunT treeTable pw w 11 ann6 1 1576 ⟨trM w.params, 207, {}, #[], {}, 491, os⟩ (piecesOf l2 env1 cE ⟨139, 14, 139, 25⟩ [topFrame p00]) =
    some (.next, ⟨trA w.params, 446, {}, #[], {}, 827, os⟩, cE, ⟨287, 0, 309, 16⟩) := by
  rw [PySem.W.Fast.te10110043849684766642, PySem.W.Fast.te14364793385576792824]
  kernel_rfl
theorem run_3 (w : World) (os : OsState) : segRunT treeTable pw w 11 ann6 1 1316 ⟨trA w.params, 446, {}, #[], {}, 827, os⟩ (piecesOf l3 env1 cE ⟨287, 0, 309, 16⟩ [topFrame p00]) =
    some (.next, ⟨trB w.params, 678, {}, #[], {}, 1107, os⟩, cE, ⟨367, 0, 411, 17⟩) := by
  rw [PySem.W.Fast.te10110043849684766642, PySem.W.Fast.te14364793385576792824]
  kernel_rfl
theorem run_4 (w : World) (os : OsState) : segRunT treeTable pw w 11 ann6 1 966 ⟨trB w.params, 678, {}, #[], {}, 1107, os⟩ (piecesOf l4 env1 cE ⟨367, 0, 411, 17⟩ [topFrame p00]) =
    some (.next, ⟨trC w.params, 843, {}, #[], {}, 1334, os⟩, cE, ⟨438, 0, 520, 17⟩) := by
  rw [PySem.W.Fast.te10110043849684766642, PySem.W.Fast.te14364793385576792824]
  kernel_rfl
theorem run_5 (w : World) (os : OsState) : segRunT treeTable pw w 11 ann6 1 924 ⟨trC w.params, 843, {}, #[], {}, 1334, os⟩ (piecesOf l5 env1 cE ⟨438, 0, 520, 17⟩ [topFrame p00]) =
    some (.next, ⟨trD w.params, 1006, {}, #[], {}, 1562, os⟩, cE, ⟨622, 0, 628, 16⟩) := by
  rw [PySem.W.Fast.te10110043849684766642, PySem.W.Fast.te14364793385576792824]
  kernel_rfl
theorem run_6 (w : World) (os : OsState) : segRunT treeTable pw w 11 ann6 1 1386 ⟨trD w.params, 1006, {}, #[], {}, 1562, os⟩ (piecesOf l6 env1 cE ⟨622, 0, 628, 16⟩ [topFrame p00]) =
    some (.next, ⟨trE w.params, 1276, {}, #[], {}, 1895, os⟩, cE, ⟨631, 0, 794, 42⟩) := by
  rw [PySem.W.Fast.te10110043849684766642, PySem.W.Fast.te14364793385576792824]
  kernel_rfl
theorem run_7 (w : World) (os : OsState) : segRunT treeTable pw w 11 ann6 1 366 ⟨trE w.params, 1276, {}, #[], {}, 1895, os⟩ (piecesOf r6 env1 cE ⟨631, 0, 794, 42⟩ [topFrame p00]) =
    some (.next, ⟨trF w.params, 1348, {}, #[], {}, 2001, os⟩, cE, ⟨886, 0, 902, 52⟩) := by
  rw [PySem.W.Fast.te10110043849684766642, PySem.W.Fast.te14364793385576792824]
  kernel_rfl
theorem run_fin (w : World) (os : OsState) : topRun treeTable pw w 11 ann6 2 (SharedT.mk (trF w.params) 1348 {} #[] {} 2001 os).abs ⟨doneF .next, cE, ⟨886, 0, 902, 52⟩, [topFrame p00]⟩ =
    some (SharedT.mk (trF w.params) 1348 {} #[] {} 2001 os).abs := by
  rw [PySem.W.Fast.te14082659384304107361, PySem.W.Fast.te14364793385576792824]
  kernel_rfl
end
section
theorem body_cut : bodyAll = l1 ++ (l2 ++ (l3 ++ (l4 ++ (l5 ++ (l6 ++ (r6 ++ [])))))) := by
  have e : ∀ (n : Nat) (l : List Stmt), l = l.take n ++ l.drop n := fun n l => (List.take_append_drop n l).symm
  rw [List.append_nil]
  refine (e 42 bodyAll).trans (congrArg (l1 ++ ·) ?_)
  refine (e 22 r1).trans (congrArg (l2 ++ ·) ?_)
  refine (e 2 r2).trans (congrArg (l3 ++ ·) ?_)
  refine (e 8 r3).trans (congrArg (l4 ++ ·) ?_)
  refine (e 4 r4).trans (congrArg (l5 ++ ·) ?_)
  exact e 3 r5
noncomputable def H1 (P : Params) : Heap := absHeap (trF P) 1348 {}
noncomputable abbrev steps : Nat := 12 + (1 + (1554 + (1576 + (1316 + (966 + (924 + (1386 + (366 + 2))))))))
theorem run_all (w : World) (os : OsState) : topRun treeTable pw w 11 ann6 steps ⟨boot_heap w.params, #[], boot_drawn, boot_toks, os⟩ (topStub pw) = some ⟨H1 w.params, #[], {}, 2001, os⟩ := by
  refine go_top (run_pre w os) ?_
  refine piece_block (run_block w os) ?_
  rw [body_cut]
  refine piece_app (segRun_of (run_1 w os)) ?_
  refine piece_app (segRun_of (run_2 w os)) ?_
  refine piece_app (segRun_of (run_3 w os)) ?_
  refine piece_app (segRun_of (run_4 w os)) ?_
  refine piece_app (segRun_of (run_5 w os)) ?_
  refine piece_app (segRun_of (run_6 w os)) ?_
  refine piece_app (segRun_of (run_7 w os)) ?_
  exact piece_nil (run_fin w os)
theorem open_1 : ∀ w : World, (fencedOpening treeTable pw w 20000).map (fun s => (s.heap, s.gens, s.drawn, s.toks)) = some (boot_heap w.params, #[], boot_drawn, boot_toks) :=
  boot_open (by kernel_rfl) (by decide) (fun s => by kernel_rfl)
theorem size_1 (w : World) : ((boot_heap w.params).isNs mainGlobals && (#[] : Array GenState).size == 0, (boot_heap w.params).objs.size, (boot_heap w.params).nsMap mainGlobals "__annotations__") = (true, 11, ann6) := by
  kernel_rfl
noncomputable def qv : Program := { pw with main := { pw.main with body := [at1 93] } }
noncomputable def looseL : List Str := [Str.ofString "_wall", Str.ofString "BOLD", Str.ofString "BLINK", Str.ofString "INVERSE", Str.ofString "UNDER_SHIFT", Str.ofString "UNDER_MASK", Str.ofString "NO_COLOUR", Str.ofString "PLAIN", Str.ofString "BACK", Str.ofString "BLANK", Str.ofString "TermError", Str.ofString "BadSize", Str.ofString "clamp", Str.ofString "decimal_octets", Str.ofString "number_of", Str.ofString "under_of", Str.ofString "flags_with_under", Str.ofString "erased_pen", Str.ofString "blank_cell", Str.ofString "is_blank", Str.ofString "REPORT_BASE", Str.ofString "LAST_ROW_FINALS", Str.ofString "report_numbers", Str.ofString "bits_octet", Str.ofString "octet_bits", Str.ofString "cursor_report", Str.ofString "designated_names", Str.ofString "cursor_fields", Str.ofString "restore_cursor_report", Str.ofString "restore_tab_report", Str.ofString "MOUSE_MODES", Str.ofString "MOUSE_ENCODINGS", Str.ofString "FIRST_ON", Str.ofString "modes_group", Str.ofString "Modes", Str.ofString "WIDTH_PICTURE", Str.ofString "WIDTH_KEYCAP", Str.ofString "FIRST_REGION", Str.ofString "LAST_REGION", Str.ofString "width_in_ranges", Str.ofString "width_check_ranges", Str.ofString "WidthTable", Str.ofString "is_region", Str.ofString "cluster_width", Str.ofString "ASCII_SET", Str.ofString "SUPPLEMENT_SET", Str.ofString "LATIN_SET", Str.ofString "LEFT_FIRST", Str.ofString "LEFT_LAST", Str.ofString "HIGH_BIT", Str.ofString "CHARSET_NAMES", Str.ofString "charset_pairs", Str.ofString "charset_drawing", Str.ofString "charset_supplement", Str.ofString "charset_national", Str.ofString "charset_table", Str.ofString "Charsets", Str.ofString "TAB_WIDTH", Str.ofString "Cursor", Str.ofString "Margins", Str.ofString "Tabs", Str.ofString "LINE_SIZES", Str.ofString "line_blanks", Str.ofString "right_half", Str.ofString "line_part", Str.ofString "line_slice", Str.ofString "line_codes", Str.ofString "Line", Str.ofString "Grid", Str.ofString "grid_cut", Str.ofString "grid_mended", Str.ofString "WIDE_SIZES", Str.ofString "Screen", Str.ofString "_law_deck", Str.ofString "_law_draw", Str.ofString "_law_pick", Str.ofString "_law_screen", Str.ofString "_law_state", Str.ofString "_law_bits", Str.ofString "_law_decimal", Str.ofString "_law_fields", Str.ofString "_law_put", Str.ofString "_law_spoilt", Str.ofString "_law_tabs_right"]
noncomputable def Xt1 (s : Shared) : Bool := xlAt qv [] s && recOk [] s
noncomputable def hk : Hook := kHook KK KA (fun _ => by kernel_rfl)
theorem looks_1 (w : World) : (fun os => ((staticsOk (importedModules pw.main.body) (boot_heap w.params) (H1 w.params) && namesBound pw (H1 w.params) && gensDone ⟨H1 w.params, #[], {}, 2001, os⟩ && laidKept (boot_heap w.params) (H1 w.params)),
        openSeen qv looseL (importedModules pw.main.body) Xt1 true ⟨H1 w.params, #[], {}, 2001, os⟩, hk.obs ⟨H1 w.params, #[], {}, 2001, os⟩)) = fun _ => (true, openGood qv looseL, hk.val w) := by
  rw [PySem.W.Fast.te4187177175401517315]
  kernel_rfl
end
section
set_option maxHeartbeats 0 in
theorem said_1 : PySem.Challenge.rw_og0294_01.wellSaid = true := by
  rw [PySem.W.Fast.te9446332074065402090]
  unfold PySem.W.Fast.tw9446332074065402090 PySem.W.Fast.tw17960256430627541270 PySem.W.Fast.tw2436336058641802641 PySem.W.Fast.tw12908688711261696721
  repeat' (with_reducible refine look_both ?_ ?_)
  all_goals (decide +kernel)
theorem left_1 : LeftO PySem.Challenge.rw_og0294_01.row.prog qv looseL Xt1 hk.obs hk.val 20000 :=
  LeftO.of_pieces open_1 size_1 run_all (by decide) looks_1
theorem oks_1 : (chainsOk qv && opensWell PySem.Challenge.rw_og0294_01.row.prog && (frees PySem.Challenge.rw_og0294_01.row.toRowW && PySem.Challenge.rw_og0294_01.row.within.isEmpty)) = true := by
  kernel_rfl
theorem bare_1 : PySem.Challenge.rw_og0294_01.row.prog.bare := by
  refine ⟨rfl, rfl, rfl, rfl, rfl, ?_⟩
  decide +kernel
theorem hw_1 : PySem.Challenge.rw_og0294_01.row.toRowW.promised := by
  w_witness2
set_option maxHeartbeats 8000000 in
theorem head_1 {d : DefRec} {kwd : List (Str × PySem.Expr)} (hdef : defOf qv PySem.Challenge.rw_og0294_01.row.name = some (d, kwd)) (hp : PySem.Challenge.rw_og0294_01.row.prog.theDef PySem.Challenge.rw_og0294_01.row.name = some (d.params, d.body, d.scope)) (hk2 : kwWritten? d.params.kwonlyargs d.params.kw_defaults = some kwd)
    (call : WalkO qv looseL (XL qv []) hk.says PySem.Challenge.rw_og0294_01.row.toRowW d kwd fun f vs => PySem.call f vs) : PySem.Challenge.rw_og0294_01.Holds := by
  refine holds_law said_1 fun said => ?_
  exact holds_open (q := qv) (loose := looseL) (Xt := Xt1) (XP := XL qv []) (Yf := hk.obs) (Ya := hk.val) (YP := hk.says) (N := 20000) left_1 hk.of hk.keeps (fun s e => xl_of s (Bool.and_eq_true_iff.mp e).1) XL.keeps hdef hp hk2 (fun s e => recFacts_of (Bool.and_eq_true_iff.mp e).2) (by rfl) said oks_1 bare_1 hw_1 call
end
section
theorem in_keep {K : Frag} {h₀ h : PySem.Heap} {L : PySem.Addr} {m : PySem.Str → Option PySem.Value} (F : Fr h₀ L h m) (X : K.In h₀) : K.In h := Frag.In.keeps X (Fr.keep F)
theorem allLt_hd {x : Nat} {a : PySem.Addr} {o : PySem.Obj} {l : List (PySem.Addr × PySem.Obj)} (h : AllLt x ((a, o) :: l)) : @LT.lt Nat _ a x := h.1
theorem allLt_tl {x : Nat} {p : PySem.Addr × PySem.Obj} {l : List (PySem.Addr × PySem.Obj)} (h : AllLt x (p :: l)) : AllLt x l := h.2
theorem lt2r {a m b : Nat} (h2 : m < b) (h1 : a < m) : a < b := Nat.lt_trans h1 h2
theorem lt3r {a m n b : Nat} (h3 : n < b) (h2 : m < n) (h1 : a < m) : a < b := Nat.lt_trans h1 (Nat.lt_trans h2 h3)
theorem ne_a1 {a L : Nat} (h : a < L) : a ≠ L + 1 := Nat.ne_of_lt (Nat.lt_succ_of_lt h)
theorem ne_a2 {a L : Nat} (h : a < L) : a ≠ L + 1 + 1 := Nat.ne_of_lt (Nat.lt_succ_of_lt (Nat.lt_succ_of_lt h))
theorem ne_a0 {L : Nat} : L ≠ L + 1 := Nat.ne_of_lt (Nat.lt_succ_self L)
theorem ne_a12 {L : Nat} : L + 1 ≠ L + 1 + 1 := Nat.ne_of_lt (Nat.lt_succ_self _)
theorem ne_cj {a b : Nat} {P : Prop} (h : @Ne Nat a b ∧ P) : @Ne Nat b a := fun e => h.1 e.symm
theorem ne_cj' {a b : Nat} {P : Prop} (h : @Ne Nat a b ∧ P) : @Ne Nat a b := h.1
theorem room0 {dp D R : Nat} (hd : dp + D < R) : dp < R := Nat.lt_of_le_of_lt (Nat.le_add_right _ _) hd
theorem room1 {dp D D' R : Nat} (hd : dp + D < R) (h : Nat.ble D' D = true) : dp + D' < R := Nat.lt_of_le_of_lt (Nat.add_le_add_left (Nat.le_of_ble_eq_true h) _) hd
theorem room2 {dp a D D' R : Nat} (hd : dp + D < R) (h : Nat.ble (a + D') D = true) : dp + a + D' < R := Nat.add_assoc dp a D' ▸ room1 hd h
theorem room3 {dp a b D D' R : Nat} (hd : dp + D < R) (h : Nat.ble (a + b + D') D = true) : dp + a + b + D' < R := Nat.add_assoc dp a b ▸ room2 hd h
theorem sub_nil {all : List (PySem.Addr × PySem.Obj)} : SubL [] all := trivial
theorem sub_cons {p : PySem.Addr × PySem.Obj} {r all : List (PySem.Addr × PySem.Obj)} (h : p ∈ all) (k : SubL r all) : SubL (p :: r) all := ⟨h, k⟩
theorem mem_hd {a b : PySem.Addr} {o q : PySem.Obj} {l : List (PySem.Addr × PySem.Obj)} (h : a = b) (k : o = q) : (a, o) ∈ (b, q) :: l := h ▸ k ▸ List.mem_cons_self ..
noncomputable def App1 {α1 : Type} (P : α1 → Prop) (x1 : α1) : Prop := P x1
theorem App1.of {α1 : Type} {P : α1 → Prop} {x1 : α1} (h : P x1) : App1 P x1 := h
noncomputable abbrev All1 {α1 : Type} (P : α1 → Prop) : Prop := ∀ x1, P x1
noncomputable abbrev AllA1 {α1 : Type} (P : α1 → Prop) : Prop := ∀ x1, App1 P x1
noncomputable def wit1 {α1 : Type} (n : Nonempty (α1)) (P : α1 → Prop) : α1 := @Classical.epsilon (α1) n fun t => ¬ P t
theorem drink1 {α1 : Type} {P : α1 → Prop} (n : Nonempty (α1)) (h : App1 P (wit1 n P)) : All1 P := fun x1 =>
  Classical.byContradiction fun hx => Classical.epsilon_spec (p := fun t : α1 => ¬ P t) ⟨x1, hx⟩ h
noncomputable def App2 {α1 α2 : Type} (P : α1 → α2 → Prop) (x1 : α1) (x2 : α2) : Prop := P x1 x2
theorem App2.of {α1 α2 : Type} {P : α1 → α2 → Prop} {x1 : α1} {x2 : α2} (h : P x1 x2) : App2 P x1 x2 := h
noncomputable abbrev All2 {α1 α2 : Type} (P : α1 → α2 → Prop) : Prop := ∀ x1 x2, P x1 x2
noncomputable abbrev AllA2 {α1 α2 : Type} (P : α1 → α2 → Prop) : Prop := ∀ x1 x2, App2 P x1 x2
noncomputable def wit2 {α1 α2 : Type} (n : Nonempty (α1 × α2)) (P : α1 → α2 → Prop) : α1 × α2 := @Classical.epsilon (α1 × α2) n fun t => ¬ P t.1 t.2
theorem drink2 {α1 α2 : Type} {P : α1 → α2 → Prop} (n : Nonempty (α1 × α2)) (h : App2 P (wit2 n P).1 (wit2 n P).2) : All2 P := fun x1 x2 =>
  Classical.byContradiction fun hx => Classical.epsilon_spec (p := fun t : α1 × α2 => ¬ P t.1 t.2) ⟨(x1, x2), hx⟩ h
noncomputable def App3 {α1 α2 α3 : Type} (P : α1 → α2 → α3 → Prop) (x1 : α1) (x2 : α2) (x3 : α3) : Prop := P x1 x2 x3
theorem App3.of {α1 α2 α3 : Type} {P : α1 → α2 → α3 → Prop} {x1 : α1} {x2 : α2} {x3 : α3} (h : P x1 x2 x3) : App3 P x1 x2 x3 := h
noncomputable abbrev All3 {α1 α2 α3 : Type} (P : α1 → α2 → α3 → Prop) : Prop := ∀ x1 x2 x3, P x1 x2 x3
noncomputable abbrev AllA3 {α1 α2 α3 : Type} (P : α1 → α2 → α3 → Prop) : Prop := ∀ x1 x2 x3, App3 P x1 x2 x3
noncomputable def wit3 {α1 α2 α3 : Type} (n : Nonempty (α1 × α2 × α3)) (P : α1 → α2 → α3 → Prop) : α1 × α2 × α3 := @Classical.epsilon (α1 × α2 × α3) n fun t => ¬ P t.1 t.2.1 t.2.2
theorem drink3 {α1 α2 α3 : Type} {P : α1 → α2 → α3 → Prop} (n : Nonempty (α1 × α2 × α3)) (h : App3 P (wit3 n P).1 (wit3 n P).2.1 (wit3 n P).2.2) : All3 P := fun x1 x2 x3 =>
  Classical.byContradiction fun hx => Classical.epsilon_spec (p := fun t : α1 × α2 × α3 => ¬ P t.1 t.2.1 t.2.2) ⟨(x1, x2, x3), hx⟩ h
noncomputable def App4 {α1 α2 α3 α4 : Type} (P : α1 → α2 → α3 → α4 → Prop) (x1 : α1) (x2 : α2) (x3 : α3) (x4 : α4) : Prop := P x1 x2 x3 x4
theorem App4.of {α1 α2 α3 α4 : Type} {P : α1 → α2 → α3 → α4 → Prop} {x1 : α1} {x2 : α2} {x3 : α3} {x4 : α4} (h : P x1 x2 x3 x4) : App4 P x1 x2 x3 x4 := h
noncomputable abbrev All4 {α1 α2 α3 α4 : Type} (P : α1 → α2 → α3 → α4 → Prop) : Prop := ∀ x1 x2 x3 x4, P x1 x2 x3 x4
noncomputable abbrev AllA4 {α1 α2 α3 α4 : Type} (P : α1 → α2 → α3 → α4 → Prop) : Prop := ∀ x1 x2 x3 x4, App4 P x1 x2 x3 x4
noncomputable def wit4 {α1 α2 α3 α4 : Type} (n : Nonempty (α1 × α2 × α3 × α4)) (P : α1 → α2 → α3 → α4 → Prop) : α1 × α2 × α3 × α4 := @Classical.epsilon (α1 × α2 × α3 × α4) n fun t => ¬ P t.1 t.2.1 t.2.2.1 t.2.2.2
theorem drink4 {α1 α2 α3 α4 : Type} {P : α1 → α2 → α3 → α4 → Prop} (n : Nonempty (α1 × α2 × α3 × α4)) (h : App4 P (wit4 n P).1 (wit4 n P).2.1 (wit4 n P).2.2.1 (wit4 n P).2.2.2) : All4 P := fun x1 x2 x3 x4 =>
  Classical.byContradiction fun hx => Classical.epsilon_spec (p := fun t : α1 × α2 × α3 × α4 => ¬ P t.1 t.2.1 t.2.2.1 t.2.2.2) ⟨(x1, x2, x3, x4), hx⟩ h
noncomputable def App5 {α1 α2 α3 α4 α5 : Type} (P : α1 → α2 → α3 → α4 → α5 → Prop) (x1 : α1) (x2 : α2) (x3 : α3) (x4 : α4) (x5 : α5) : Prop := P x1 x2 x3 x4 x5
theorem App5.of {α1 α2 α3 α4 α5 : Type} {P : α1 → α2 → α3 → α4 → α5 → Prop} {x1 : α1} {x2 : α2} {x3 : α3} {x4 : α4} {x5 : α5} (h : P x1 x2 x3 x4 x5) : App5 P x1 x2 x3 x4 x5 := h
noncomputable abbrev All5 {α1 α2 α3 α4 α5 : Type} (P : α1 → α2 → α3 → α4 → α5 → Prop) : Prop := ∀ x1 x2 x3 x4 x5, P x1 x2 x3 x4 x5
noncomputable abbrev AllA5 {α1 α2 α3 α4 α5 : Type} (P : α1 → α2 → α3 → α4 → α5 → Prop) : Prop := ∀ x1 x2 x3 x4 x5, App5 P x1 x2 x3 x4 x5
noncomputable def wit5 {α1 α2 α3 α4 α5 : Type} (n : Nonempty (α1 × α2 × α3 × α4 × α5)) (P : α1 → α2 → α3 → α4 → α5 → Prop) : α1 × α2 × α3 × α4 × α5 := @Classical.epsilon (α1 × α2 × α3 × α4 × α5) n fun t => ¬ P t.1 t.2.1 t.2.2.1 t.2.2.2.1 t.2.2.2.2
theorem drink5 {α1 α2 α3 α4 α5 : Type} {P : α1 → α2 → α3 → α4 → α5 → Prop} (n : Nonempty (α1 × α2 × α3 × α4 × α5)) (h : App5 P (wit5 n P).1 (wit5 n P).2.1 (wit5 n P).2.2.1 (wit5 n P).2.2.2.1 (wit5 n P).2.2.2.2) : All5 P := fun x1 x2 x3 x4 x5 =>
  Classical.byContradiction fun hx => Classical.epsilon_spec (p := fun t : α1 × α2 × α3 × α4 × α5 => ¬ P t.1 t.2.1 t.2.2.1 t.2.2.2.1 t.2.2.2.2) ⟨(x1, x2, x3, x4, x5), hx⟩ h
noncomputable def App6 {α1 α2 α3 α4 α5 α6 : Type} (P : α1 → α2 → α3 → α4 → α5 → α6 → Prop) (x1 : α1) (x2 : α2) (x3 : α3) (x4 : α4) (x5 : α5) (x6 : α6) : Prop := P x1 x2 x3 x4 x5 x6
theorem App6.of {α1 α2 α3 α4 α5 α6 : Type} {P : α1 → α2 → α3 → α4 → α5 → α6 → Prop} {x1 : α1} {x2 : α2} {x3 : α3} {x4 : α4} {x5 : α5} {x6 : α6} (h : P x1 x2 x3 x4 x5 x6) : App6 P x1 x2 x3 x4 x5 x6 := h
noncomputable abbrev All6 {α1 α2 α3 α4 α5 α6 : Type} (P : α1 → α2 → α3 → α4 → α5 → α6 → Prop) : Prop := ∀ x1 x2 x3 x4 x5 x6, P x1 x2 x3 x4 x5 x6
noncomputable abbrev AllA6 {α1 α2 α3 α4 α5 α6 : Type} (P : α1 → α2 → α3 → α4 → α5 → α6 → Prop) : Prop := ∀ x1 x2 x3 x4 x5 x6, App6 P x1 x2 x3 x4 x5 x6
noncomputable def wit6 {α1 α2 α3 α4 α5 α6 : Type} (n : Nonempty (α1 × α2 × α3 × α4 × α5 × α6)) (P : α1 → α2 → α3 → α4 → α5 → α6 → Prop) : α1 × α2 × α3 × α4 × α5 × α6 := @Classical.epsilon (α1 × α2 × α3 × α4 × α5 × α6) n fun t => ¬ P t.1 t.2.1 t.2.2.1 t.2.2.2.1 t.2.2.2.2.1 t.2.2.2.2.2
theorem drink6 {α1 α2 α3 α4 α5 α6 : Type} {P : α1 → α2 → α3 → α4 → α5 → α6 → Prop} (n : Nonempty (α1 × α2 × α3 × α4 × α5 × α6)) (h : App6 P (wit6 n P).1 (wit6 n P).2.1 (wit6 n P).2.2.1 (wit6 n P).2.2.2.1 (wit6 n P).2.2.2.2.1 (wit6 n P).2.2.2.2.2) : All6 P := fun x1 x2 x3 x4 x5 x6 =>
  Classical.byContradiction fun hx => Classical.epsilon_spec (p := fun t : α1 × α2 × α3 × α4 × α5 × α6 => ¬ P t.1 t.2.1 t.2.2.1 t.2.2.2.1 t.2.2.2.2.1 t.2.2.2.2.2) ⟨(x1, x2, x3, x4, x5, x6), hx⟩ h
noncomputable def App8 {α1 α2 α3 α4 α5 α6 α7 α8 : Type} (P : α1 → α2 → α3 → α4 → α5 → α6 → α7 → α8 → Prop) (x1 : α1) (x2 : α2) (x3 : α3) (x4 : α4) (x5 : α5) (x6 : α6) (x7 : α7) (x8 : α8) : Prop := P x1 x2 x3 x4 x5 x6 x7 x8
theorem App8.of {α1 α2 α3 α4 α5 α6 α7 α8 : Type} {P : α1 → α2 → α3 → α4 → α5 → α6 → α7 → α8 → Prop} {x1 : α1} {x2 : α2} {x3 : α3} {x4 : α4} {x5 : α5} {x6 : α6} {x7 : α7} {x8 : α8} (h : P x1 x2 x3 x4 x5 x6 x7 x8) : App8 P x1 x2 x3 x4 x5 x6 x7 x8 := h
noncomputable abbrev All8 {α1 α2 α3 α4 α5 α6 α7 α8 : Type} (P : α1 → α2 → α3 → α4 → α5 → α6 → α7 → α8 → Prop) : Prop := ∀ x1 x2 x3 x4 x5 x6 x7 x8, P x1 x2 x3 x4 x5 x6 x7 x8
noncomputable abbrev AllA8 {α1 α2 α3 α4 α5 α6 α7 α8 : Type} (P : α1 → α2 → α3 → α4 → α5 → α6 → α7 → α8 → Prop) : Prop := ∀ x1 x2 x3 x4 x5 x6 x7 x8, App8 P x1 x2 x3 x4 x5 x6 x7 x8
noncomputable def wit8 {α1 α2 α3 α4 α5 α6 α7 α8 : Type} (n : Nonempty (α1 × α2 × α3 × α4 × α5 × α6 × α7 × α8)) (P : α1 → α2 → α3 → α4 → α5 → α6 → α7 → α8 → Prop) : α1 × α2 × α3 × α4 × α5 × α6 × α7 × α8 := @Classical.epsilon (α1 × α2 × α3 × α4 × α5 × α6 × α7 × α8) n fun t => ¬ P t.1 t.2.1 t.2.2.1 t.2.2.2.1 t.2.2.2.2.1 t.2.2.2.2.2.1 t.2.2.2.2.2.2.1 t.2.2.2.2.2.2.2
theorem drink8 {α1 α2 α3 α4 α5 α6 α7 α8 : Type} {P : α1 → α2 → α3 → α4 → α5 → α6 → α7 → α8 → Prop} (n : Nonempty (α1 × α2 × α3 × α4 × α5 × α6 × α7 × α8)) (h : App8 P (wit8 n P).1 (wit8 n P).2.1 (wit8 n P).2.2.1 (wit8 n P).2.2.2.1 (wit8 n P).2.2.2.2.1 (wit8 n P).2.2.2.2.2.1 (wit8 n P).2.2.2.2.2.2.1 (wit8 n P).2.2.2.2.2.2.2) : All8 P := fun x1 x2 x3 x4 x5 x6 x7 x8 =>
  Classical.byContradiction fun hx => Classical.epsilon_spec (p := fun t : α1 × α2 × α3 × α4 × α5 × α6 × α7 × α8 => ¬ P t.1 t.2.1 t.2.2.1 t.2.2.2.1 t.2.2.2.2.1 t.2.2.2.2.2.1 t.2.2.2.2.2.2.1 t.2.2.2.2.2.2.2) ⟨(x1, x2, x3, x4, x5, x6, x7, x8), hx⟩ h
noncomputable def App14 {α1 α2 α3 α4 α5 α6 α7 α8 α9 α10 α11 α12 α13 α14 : Type} (P : α1 → α2 → α3 → α4 → α5 → α6 → α7 → α8 → α9 → α10 → α11 → α12 → α13 → α14 → Prop) (x1 : α1) (x2 : α2) (x3 : α3) (x4 : α4) (x5 : α5) (x6 : α6) (x7 : α7) (x8 : α8) (x9 : α9) (x10 : α10) (x11 : α11) (x12 : α12) (x13 : α13) (x14 : α14) : Prop := P x1 x2 x3 x4 x5 x6 x7 x8 x9 x10 x11 x12 x13 x14
theorem App14.of {α1 α2 α3 α4 α5 α6 α7 α8 α9 α10 α11 α12 α13 α14 : Type} {P : α1 → α2 → α3 → α4 → α5 → α6 → α7 → α8 → α9 → α10 → α11 → α12 → α13 → α14 → Prop} {x1 : α1} {x2 : α2} {x3 : α3} {x4 : α4} {x5 : α5} {x6 : α6} {x7 : α7} {x8 : α8} {x9 : α9} {x10 : α10} {x11 : α11} {x12 : α12} {x13 : α13} {x14 : α14} (h : P x1 x2 x3 x4 x5 x6 x7 x8 x9 x10 x11 x12 x13 x14) : App14 P x1 x2 x3 x4 x5 x6 x7 x8 x9 x10 x11 x12 x13 x14 := h
noncomputable abbrev All14 {α1 α2 α3 α4 α5 α6 α7 α8 α9 α10 α11 α12 α13 α14 : Type} (P : α1 → α2 → α3 → α4 → α5 → α6 → α7 → α8 → α9 → α10 → α11 → α12 → α13 → α14 → Prop) : Prop := ∀ x1 x2 x3 x4 x5 x6 x7 x8 x9 x10 x11 x12 x13 x14, P x1 x2 x3 x4 x5 x6 x7 x8 x9 x10 x11 x12 x13 x14
noncomputable abbrev AllA14 {α1 α2 α3 α4 α5 α6 α7 α8 α9 α10 α11 α12 α13 α14 : Type} (P : α1 → α2 → α3 → α4 → α5 → α6 → α7 → α8 → α9 → α10 → α11 → α12 → α13 → α14 → Prop) : Prop := ∀ x1 x2 x3 x4 x5 x6 x7 x8 x9 x10 x11 x12 x13 x14, App14 P x1 x2 x3 x4 x5 x6 x7 x8 x9 x10 x11 x12 x13 x14
noncomputable def wit14 {α1 α2 α3 α4 α5 α6 α7 α8 α9 α10 α11 α12 α13 α14 : Type} (n : Nonempty (α1 × α2 × α3 × α4 × α5 × α6 × α7 × α8 × α9 × α10 × α11 × α12 × α13 × α14)) (P : α1 → α2 → α3 → α4 → α5 → α6 → α7 → α8 → α9 → α10 → α11 → α12 → α13 → α14 → Prop) : α1 × α2 × α3 × α4 × α5 × α6 × α7 × α8 × α9 × α10 × α11 × α12 × α13 × α14 := @Classical.epsilon (α1 × α2 × α3 × α4 × α5 × α6 × α7 × α8 × α9 × α10 × α11 × α12 × α13 × α14) n fun t => ¬ P t.1 t.2.1 t.2.2.1 t.2.2.2.1 t.2.2.2.2.1 t.2.2.2.2.2.1 t.2.2.2.2.2.2.1 t.2.2.2.2.2.2.2.1 t.2.2.2.2.2.2.2.2.1 t.2.2.2.2.2.2.2.2.2.1 t.2.2.2.2.2.2.2.2.2.2.1 t.2.2.2.2.2.2.2.2.2.2.2.1 t.2.2.2.2.2.2.2.2.2.2.2.2.1 t.2.2.2.2.2.2.2.2.2.2.2.2.2
theorem drink14 {α1 α2 α3 α4 α5 α6 α7 α8 α9 α10 α11 α12 α13 α14 : Type} {P : α1 → α2 → α3 → α4 → α5 → α6 → α7 → α8 → α9 → α10 → α11 → α12 → α13 → α14 → Prop} (n : Nonempty (α1 × α2 × α3 × α4 × α5 × α6 × α7 × α8 × α9 × α10 × α11 × α12 × α13 × α14)) (h : App14 P (wit14 n P).1 (wit14 n P).2.1 (wit14 n P).2.2.1 (wit14 n P).2.2.2.1 (wit14 n P).2.2.2.2.1 (wit14 n P).2.2.2.2.2.1 (wit14 n P).2.2.2.2.2.2.1 (wit14 n P).2.2.2.2.2.2.2.1 (wit14 n P).2.2.2.2.2.2.2.2.1 (wit14 n P).2.2.2.2.2.2.2.2.2.1 (wit14 n P).2.2.2.2.2.2.2.2.2.2.1 (wit14 n P).2.2.2.2.2.2.2.2.2.2.2.1 (wit14 n P).2.2.2.2.2.2.2.2.2.2.2.2.1 (wit14 n P).2.2.2.2.2.2.2.2.2.2.2.2.2) : All14 P := fun x1 x2 x3 x4 x5 x6 x7 x8 x9 x10 x11 x12 x13 x14 =>
  Classical.byContradiction fun hx => Classical.epsilon_spec (p := fun t : α1 × α2 × α3 × α4 × α5 × α6 × α7 × α8 × α9 × α10 × α11 × α12 × α13 × α14 => ¬ P t.1 t.2.1 t.2.2.1 t.2.2.2.1 t.2.2.2.2.1 t.2.2.2.2.2.1 t.2.2.2.2.2.2.1 t.2.2.2.2.2.2.2.1 t.2.2.2.2.2.2.2.2.1 t.2.2.2.2.2.2.2.2.2.1 t.2.2.2.2.2.2.2.2.2.2.1 t.2.2.2.2.2.2.2.2.2.2.2.1 t.2.2.2.2.2.2.2.2.2.2.2.2.1 t.2.2.2.2.2.2.2.2.2.2.2.2.2) ⟨(x1, x2, x3, x4, x5, x6, x7, x8, x9, x10, x11, x12, x13, x14), hx⟩ h
inductive Mark : Prop | mk
theorem ne_world : Nonempty World := ⟨⟨fun _ _ => 0, ⟨fun _ => 0, fun _ => 0, id, fun _ => 0, fun _ _ => 0, fun _ => false, fun _ => 0, .refcount, .text, fun _ => 0, fun _ => none, fun _ => false, fun _ _ _ => true, fun _ _ _ => true, true, fun _ => false, fun _ => none, fun _ => none, fun _ _ _ => 0, fun _ _ => none, fun _ => none, fun _ => (0, false, "UTC"), fun _ => none, id, fun _ => false⟩⟩⟩
theorem ne_shared : Nonempty Shared := ⟨{}⟩
theorem ne_drawn : Nonempty Drawn := ⟨{}⟩
theorem ne_prod {α β : Type} (a : Nonempty α) (b : Nonempty β) : Nonempty (α × β) := ⟨(Classical.choice a, Classical.choice b)⟩
theorem ne_around : Nonempty Around := ⟨by constructor <;> first | exact default | exact none | exact 0⟩
end
theorem fill_all : PySem.Challenge.rw_og0294_01.foot = 12 ∧ KK = KK := by
  k_fill
  exact ⟨rfl, rfl⟩
local macro_rules | `(tactic| walk_at $s:str) => do
  let t := Lean.Syntax.mkStrLit ("my " ++ s.getString)
  `(tactic| k_extra $t)
local macro_rules | `(tactic| k_ne) => `(tactic| k_extra "my kne")
local macro_rules | `(tactic| ktr_room) => `(tactic| k_extra "my krm")
local macro_rules | `(tactic| ktr_units) => `(tactic| k_extra "my kun")
local macro_rules | `(tactic| k_room) => `(tactic| k_extra "my krm")
local macro_rules | `(tactic| units_room) => `(tactic| k_extra "my kun")
local macro_rules | `(tactic| k_units) => `(tactic| k_extra "my kun")
local macro_rules | `(tactic| k_fold) => `(tactic| k_extra "my kfold")
local macro_rules | `(tactic| k_in) => `(tactic| k_extra "my kin")
local macro_rules | `(tactic| k_mem) => `(tactic| k_extra "my kmem")
local macro_rules | `(tactic| k_updF) => `(tactic| k_extra "my kupdF")
local macro_rules | `(tactic| k_handed) => `(tactic| k_extra "my khanded")
local macro_rules | `(tactic| k_all) => `(tactic| k_extra "my kall")
local macro_rules | `(tactic| k_lt $h:ident) => `(tactic| first | (replace $h := allLt_of $h; have := allLt_hd $h; replace $h := allLt_tl $h; (repeat (have := allLt_hd $h; replace $h := allLt_tl $h))) | (have hnil : AllLt _ [] := allLt_of $h; clear hnil))
theorem kw_base : True := by
  k_with_none
  k_with "my ne" => (repeat (first | (refine ne_prod ?_ ?_) | infer_instance | exact ne_world | exact ne_shared | exact ne_drawn | exact ne_around | exact ⟨by constructor <;> (next => first | exact default | exact (0 : Nat))⟩))
  k_with "my d14" => (with_reducible refine drink14 ?_ ?_; (next => k_extra "my ne"); with_reducible refine (?_ : AllA14 _) _ _ _ _ _ _ _ _ _ _ _ _ _ _)
  k_with "my d8" => (with_reducible refine drink8 ?_ ?_; (next => k_extra "my ne"); with_reducible refine (?_ : AllA8 _) _ _ _ _ _ _ _ _)
  k_with "my d6" => (with_reducible refine drink6 ?_ ?_; (next => k_extra "my ne"); with_reducible refine (?_ : AllA6 _) _ _ _ _ _ _)
  k_with "my d5" => (with_reducible refine drink5 ?_ ?_; (next => k_extra "my ne"); with_reducible refine (?_ : AllA5 _) _ _ _ _ _)
  k_with "my d4" => (with_reducible refine drink4 ?_ ?_; (next => k_extra "my ne"); with_reducible refine (?_ : AllA4 _) _ _ _ _)
  k_with "my d3" => (with_reducible refine drink3 ?_ ?_; (next => k_extra "my ne"); with_reducible refine (?_ : AllA3 _) _ _ _)
  k_with "my d2" => (with_reducible refine drink2 ?_ ?_; (next => k_extra "my ne"); with_reducible refine (?_ : AllA2 _) _ _)
  k_with "my d1" => (with_reducible refine drink1 ?_ ?_; (next => k_extra "my ne"); with_reducible refine (?_ : AllA1 _) _)
  k_with "my of" => (first | with_reducible refine App14.of ?_ | with_reducible refine App8.of ?_ | with_reducible refine App6.of ?_ | with_reducible refine App5.of ?_ | with_reducible refine App4.of ?_ | with_reducible refine App3.of ?_ | with_reducible refine App2.of ?_ | with_reducible refine App1.of ?_)
  k_with "my ne2" => (first | with_reducible assumption | exact Ne.symm (by with_reducible assumption) | exact ne_a1 (by with_reducible assumption) | exact ne_a2 (by with_reducible assumption) | exact Ne.symm (ne_a1 (by with_reducible assumption)) | exact Ne.symm (ne_a2 (by with_reducible assumption)) | exact ne_a0 | exact ne_a12 | exact Ne.symm ne_a0 | exact Ne.symm ne_a12 | exact Nat.ne_of_gt (lt2r (by with_reducible assumption) (by with_reducible assumption)) | exact Nat.ne_of_lt (lt2r (by with_reducible assumption) (by with_reducible assumption)) | exact Nat.ne_of_gt (Nat.lt_trans (by with_reducible assumption) (by with_reducible assumption)) | exact Nat.ne_of_lt (Nat.lt_trans (by with_reducible assumption) (by with_reducible assumption)) | exact Nat.ne_of_gt (lt3r (by with_reducible assumption) (by with_reducible assumption) (by with_reducible assumption)) | exact Nat.ne_of_lt (lt3r (by with_reducible assumption) (by with_reducible assumption) (by with_reducible assumption)) | k_extra "my cjs")
  k_with "my cjs" => ((rename (_ ∧ _) => hcj); first | k_extra "my cj" | (clear hcj; k_extra "my cjs"))
  k_with "my cj" => (first | exact ne_cj hcj | exact ne_cj' hcj | exact ne_cj (And.left hcj) | exact ne_cj' (And.left hcj) | exact ne_cj (And.right (And.left hcj)) | exact ne_cj' (And.right (And.left hcj)) | exact And.right (And.right (And.left hcj)) | exact Ne.symm (And.right (And.right (And.left hcj))) | (have hcj := And.right hcj; first | exact hcj | exact Ne.symm hcj | k_extra "my cj"))
  k_with "my dr" => (first | (k_extra "my d8"; intros zz zz zz zz zz zz zz zz; with_reducible refine App8.of ?_) | (k_extra "my d6"; intros zz zz zz zz zz zz; with_reducible refine App6.of ?_) | (k_extra "my d5"; intros zz zz zz zz zz; with_reducible refine App5.of ?_) | (k_extra "my d4"; intros zz zz zz zz; with_reducible refine App4.of ?_) | (k_extra "my d3"; intros zz zz zz; with_reducible refine App3.of ?_) | (k_extra "my d2"; intros zz zz; with_reducible refine App2.of ?_) | (k_extra "my d1"; intros zz; with_reducible refine App1.of ?_))
  k_with "my rv" => (rename _ => zz; (fail_if_success (with_reducible have : Mark := zz)); revert zz)
  k_with "my kclose" => (try ((with_reducible show wpAny _ _ _ _ _ _); (fail_if_success (fail_if_success (have : Mark := by assumption))); k_extra "my rv"; (repeat k_extra "my rv"); (repeat (first | k_extra "my dr" | with_reducible intro zz)); haveI mk : Mark := Mark.mk))
  k_with "my kf" => (k_extra "my kclose")
  k_with "my ks2" => (repeat' (first | (k_unfold; (try dsimp only); k_extra "my kf") | (k_end; wrow_close) | (walk1; (try dsimp only); k_extra "my kf") | (dsimp only; walk1) | (leave1; try dsimp only) | (exfalso; omega) | fail "no step"))
  k_with "my kne" => (first | (refine neN ?_; (try dsimp only); first | exact Nat.ne_of_lt (by with_reducible assumption) | exact Nat.ne_of_gt (by with_reducible assumption)) | with_reducible assumption | exact Ne.symm (by with_reducible assumption) | (refine neN ?_; (try dsimp only); first | k_extra "my ne2" | omega))
  k_with "my krm" => ((try simp only [depth_under_make, depth_under_kw, depth_in1, depth_deeper, depth_caller]); k_extra "my krx")
  k_with "my kun" => ((try simp only [units_under_make, units_in1, units_deeper, Around.mark_units, units_caller]); k_extra "my krx")
  k_with "my krx" => ((try dsimp only [ktrTop]); first | exact room1 (by assumption) (by exact rfl) | exact room2 (by assumption) (by exact rfl) | exact room3 (by assumption) (by exact rfl) | exact room0 (by assumption) | omega)
  k_with "my kall" => assumption
  k_with "my kin" => (first | k_in_fast | exact in_keep (by with_reducible assumption) (by with_reducible assumption))
  trivial
section
noncomputable abbrev Led := List (Addr × Obj)
noncomputable def Cl (w : World) (p : Program) (loose : List Str) (mean : ExcName → Option Value) (mg mb : Str → Option Value) (D : Nat) (f : Addr) (vs : List Value) (news : Led) (R : (Value → Led → Prop) → Prop) : Prop :=
  ∀ (dp un : Nat) (gd : Option (List Code)) (cn : Str) (cs : Scope) (a : Addr) (ccd : Value) (cl : List (Str × Addr)) (outer : List Env) (A₀ : Around) (base h₀ : Heap) (L : Addr) (m : Str → Option Value) (s : Shared) (Q E : Value → Shared → Prop),
    Below A₀ base outer h₀ → Fr h₀ L s.heap m → (KK w.params).In h₀ → News h₀ L s.heap news → Top p loose mean mg mb h₀ → cs.kind = .function → dp + D < recursionLimit → un + 100 * D < cLine →
    R (fun v news' => ∀ h' tk', Fr h₀ L h' m → News h₀ L h' news' → Q v { s with heap := h', toks := tk' }) →
    wpAny (model pw w) (ktrTop dp un gd cn cs L a ccd cl outer) (call (.ref f) vs) Q E s
theorem Cl.use {w : World} {p : Program} {loose : List Str} {mean : ExcName → Option Value} {mg mb : Str → Option Value} {D : Nat} {f : Addr} {vs : List Value} {news : Led} {R : (Value → Led → Prop) → Prop} {dp un : Nat} {gd : Option (List Code)} {cn : Str} {cs : Scope} {a : Addr} {ccd : Value} {cl : List (Str × Addr)} {outer : List Env} {A₀ : Around} {base h₀ : Heap} {L : Addr} {m : Str → Option Value} {s : Shared} {Q E : Value → Shared → Prop}
    (C : Cl w p loose mean mg mb D f vs news R) (B : Below A₀ base outer h₀) (F : Fr h₀ L s.heap m) (X : (KK w.params).In h₀) (N : News h₀ L s.heap news) (T : Top p loose mean mg mb h₀) (hk : cs.kind = .function) (hd : dp + D < recursionLimit) (hu : un + 100 * D < cLine)
    (r : R (fun v news' => ∀ h' tk', Fr h₀ L h' m → News h₀ L h' news' → Q v { s with heap := h', toks := tk' })) :
    wpAny (model pw w) (ktrTop dp un gd cn cs L a ccd cl outer) (call (.ref f) vs) Q E s := C _ _ _ _ _ _ _ _ _ _ _ _ _ _ _ _ _ B F X N T hk hd hu r

noncomputable def Deck (w : World) (c : Addr) (n : Nat) (od oc : Obj) : Prop :=
  ∃ (u1 u2 : Tok) (xs : List Value) (k : Nat) (ns : List Int) (M T : Int),
    od.IsDictOf (PySem.strKind pw w) [(Str.ofString "cells", .ref c), (Str.ofString "mixed", .int M u1), (Str.ofString "turn", .int T u2)] ∧
    oc = W.listOf xs.toArray k ∧ IntsAre xs ns ∧ ns.length ≤ 8 ∧ 0 ≤ M ∧ M < 2147483648 ∧ 0 ≤ T ∧ T ≤ n
end
section
theorem stored_turn {a b c v : Value} : stored [(Str.ofString "cells", a), (Str.ofString "mixed", b), (Str.ofString "turn", c)] (Str.ofString "turn") v = [(Str.ofString "cells", a), (Str.ofString "mixed", b), (Str.ofString "turn", v)] := by
  rfl
theorem pop_len {xs : List Value} {ns : List Int} (hi : IntsAre xs ns) (h : decide (ns = []) = false) : 0 < xs.length := by
  rw [IntsAre.length hi]
  cases ns with
  | nil => simp at h
  | cons => exact Nat.succ_pos _
theorem pop_size {xs : List Value} {ns : List Int} (hi : IntsAre xs ns) (h : ns.length ≤ 8) : xs.length ≤ sizeLine := by
  rw [IntsAre.length hi, sizeLine_eq]
  omega
theorem kw_WDraw_0 : True := by
  k_with "my kfold" => ((fail_if_success k_extra "z6"); skip)
  k_with "my call builtin:list.pop" => ((fail_if_success k_extra "z6"); ((k_here; (with_reducible show wpAny _ _ (call (Value.builtin _) [Value.ref _]) _ _ _); k_dflt (refine' kpa_pop ?F_1 ?N_1 ?U_1 ?i_1 ?l_1 ?z_1 ?_; (case F_1 => k_asm); (case N_1 => k_asm); (case U_1 => k_upd); (case i_1 => with_reducible assumption); (case l_1 => exact pop_len (by assumption) (by assumption)); (case z_1 => exact pop_size (by assumption) (by assumption))); intro h' t' F' N' hI')))
  trivial
theorem drop_size {xs : List Value} {ns : List Int} (hi : IntsAre xs ns) (h : ns.length ≤ 8) : xs.dropLast.toArray.size ≤ sizeLine := by
  have := IntsAre.length hi
  rw [sizeLine_eq, List.size_toArray, List.length_dropLast]
  omega
theorem kw_WDraw_1 : True := by
  k_with "my call builtin:list.append" => ((fail_if_success k_extra "z6"); ((k_here; (with_reducible show wpAny _ _ (call (Value.builtin _) [Value.ref _, _]) _ _ _); k_dflt (refine' append_K ?k1_2 ?k2_2 ?k3_2 ?_ ?z_2; (case k1_2 => k_asm); (case k2_2 => k_asm); (case k3_2 => k_upd); (case z_2 => exact drop_size (by assumption) (by assumption)); k_whole); intro h' F' N')))
  k_with "my subscriptTail" => ((fail_if_success k_extra "z6"); ((k_here; (with_reducible show wpAny _ _ (subscriptTail _ _ (Value.ref _) (Value.str _ _)) _ _ _); k_dflt (refine kda_item (knd := PySem.strKind _ _) (by k_asm) (by k_mem) (by k_asm) (strKind_is _ _ _ _) (by rfl) ?_))))
  k_with "my setItem ref str" => ((fail_if_success k_extra "z6"); ((k_here; k_dflt (refine' kda_set (knd := PySem.strKind _ _) ?F_4 ?N_4 ?U_4 ?d_4 (strKind_is _ _ _ _) ?z_4 ?_; (case F_4 => k_asm); (case N_4 => k_asm); (case U_4 => k_updF); (case d_4 => k_asm); (case z_4 => rw [sizeLine_eq]; exact Nat.le_of_ble_eq_true (by with_unfolding_all rfl))); intro h' o' F' N' hd'; (try dsimp only at N'); rw [stored_turn] at hd')))
  trivial
set_option maxHeartbeats 8000000 in
theorem draw_rest (w : World) (p : Program) (loose : List Str) (mean : ExcName → Option Value) (mg mb : Str → Option Value) (d c : Addr) (n : Nat) (od oc : Obj) (below : Int) (tb : Tok) (rest : Led)
    (hn : n ≤ 1000) (hb : 0 < below) (hb2 : below ≤ 1000) (hD : Deck w c n od oc) (hdc : @LT.lt Nat _ d c) (h1 : ∀ p ∈ rest, p.1 ≠ d) (h2 : ∀ p ∈ rest, p.1 ≠ c) :
    Cl w p loose mean mg mb 2 1287 [.ref d, .int below tb] ((d, od) :: (c, oc) :: rest) (fun K => ∀ v t od' oc', 0 ≤ v → v < below → Deck w c (n + 1) od' oc' → K (.int v t) ((d, od') :: (c, oc') :: rest)) := _root_.id <| by
  obtain ⟨u1, u2, xs, k, ns, M, T, hdo, rfl, hi, hl, hM0, hM1, hT0, hT1⟩ := hD
  intro dp un gd cn cs a ccd cl outer A₀ base h₀ L m s Q E B F X N Tp hk hd hu hr
  revert hn hb hb2 hdc h1 h2 hdo hi hl hM0 hM1 hT0 hT1 B F X N Tp hk hd hu hr
  revert w p loose mean mg mb d c n od below tb rest u1 u2 xs k ns M T dp un gd cn cs a ccd cl outer A₀ base h₀ L m s Q E
  k_extra "my d14"; intros w p loose mean mg mb d c n od below tb rest u1; k_extra "my of"
  k_extra "my d14"; intros u2 xs k ns M T dp un gd cn cs a ccd cl; k_extra "my of"
  k_extra "my d8"; intros outer A₀ base h₀ L m s Q; k_extra "my of"
  k_extra "my d1"; intros E; k_extra "my of"
  intros hn hb hb2 hdc h1 h2 hdo hi hl hM0 hM1 hT0 hT1 B F X N Tp hk hd hu hr
  haveI mk : Mark := Mark.mk
  have hTn : T ≤ 1000 := by omega
  refine wpAny_call ?_
  k_dflt cell_enter
  k_extra "my kclose"
  k_extra "my ks2"
  · refine hr _ _ _ _ (fmod_lo _ hb) (fmod_hi _ hb) ⟨_, _, _, _, _, _, _, by assumption, rfl, by assumption, by assumption, hM0, hM1, by omega, by omega⟩ _ _ (by assumption) (fun p hp => (by assumption : News _ _ _ (_ :: (d, _) :: _)) p (List.mem_cons_of_mem _ hp))
  · simp only [List.push_toArray] at *
    refine hr _ _ _ _ (fmod_lo _ hb) (fmod_hi _ hb) ⟨_, _, _, _, _, _, _, by assumption, rfl, IntsAre.append (by assumption) (.cons _ _ .nil), by simp only [List.length_append, List.length_dropLast, List.length_cons, List.length_nil]; omega, hM0, hM1, by omega, by omega⟩ _ _ (by assumption) (fun p hp => (by assumption : News _ _ _ (_ :: (d, _) :: _)) p (List.mem_cons_of_mem _ hp))
  · refine hr _ _ _ _ (fmod_lo _ hb) (fmod_hi _ hb) ⟨_, _, _, _, _, _, _, by assumption, rfl, by assumption, by rw [List.length_dropLast]; omega, hM0, hM1, by omega, by omega⟩ _ _ (by assumption) (fun p hp => (by assumption : News _ _ _ (_ :: (d, _) :: _)) p (List.mem_cons_of_mem _ hp))
end
section
theorem UpdF.own {d : Addr} {o : Obj} {l : Led} {g : Obj → Led} (U : UpdF d o l g) : (d, o) ∈ l := by
  obtain ⟨pre, post, rfl, _⟩ := U.split
  exact List.mem_append.mpr (.inr (.head _))
theorem UpdF.mem {d : Addr} {o : Obj} {l : Led} {g : Obj → Led} (U : UpdF d o l g) {o' : Obj} {p : Addr × Obj} (h : p ∈ g o') : p = (d, o') ∨ (p ∈ l ∧ p.1 ≠ d) := by
  obtain ⟨pre, post, rfl, hg, h1, h2⟩ := U.split
  rw [hg] at h
  rcases List.mem_append.mp h with h | h
  · exact .inr ⟨List.mem_append.mpr (.inl h), h1 _ h⟩
  · rcases List.mem_cons.mp h with h | h
    · exact .inl h
    · exact .inr ⟨List.mem_append.mpr (.inr (.tail _ h)), h2 _ h⟩
theorem UpdF.keep {d : Addr} {o : Obj} {l : Led} {g : Obj → Led} (U : UpdF d o l g) {o' : Obj} {p : Addr × Obj} (h : p ∈ l) (hn : p.1 ≠ d) : p ∈ g o' := by
  obtain ⟨pre, post, rfl, hg, h1, h2⟩ := U.split
  rw [hg]
  rcases List.mem_append.mp h with h | h
  · exact List.mem_append.mpr (.inl h)
  · rcases List.mem_cons.mp h with rfl | h
    · exact absurd rfl hn
    · exact List.mem_append.mpr (.inr (.tail _ h))
theorem Cl.mono {w : World} {p : Program} {loose : List Str} {mean : ExcName → Option Value} {mg mb : Str → Option Value} {D : Nat} {f : Addr} {vs : List Value} {news nx : Led} {R : (Value → Led → Prop) → Prop}
    {R' : (Value → Led → Prop) → Prop} (C : Cl w p loose mean mg mb D f vs nx R) (h : ∀ p ∈ nx, p ∈ news)
    (hR : ∀ K : Value → Led → Prop, (∀ v n n', (∀ p ∈ n, p ∈ n') → K v n → K v n') → R' K → R K) : Cl w p loose mean mg mb D f vs news R' := by
  intro dp un gd cn cs a ccd cl outer A₀ base h₀ L m s Q E B F X N Tp hk hd hu hr
  refine C _ _ _ _ _ _ _ _ _ _ _ _ _ _ _ _ _ B F X (fun p hp => N p (h p hp)) Tp hk hd hu (hR _ ?_ hr)
  intro v n n' hs h h' tk' F' N'
  exact h h' tk' F' fun p hp => N' p (hs p hp)
theorem draw_ok (w : World) (p : Program) (loose : List Str) (mean : ExcName → Option Value) (mg mb : Str → Option Value) (d c : Addr) (n : Nat) (od oc : Obj) (below : Int) (tb : Tok) (news : Led) (g1 : Obj → Led) (g2 : Obj → Obj → Led)
    (hD : Deck w c n od oc) (hdc : @LT.lt Nat _ d c) (U1 : UpdF d od news g1) (U2 : ∀ o', UpdF c oc (g1 o') (g2 o')) (hn : n ≤ 1000) (hb : 0 < below) (hb2 : below ≤ 1000) :
    Cl w p loose mean mg mb 2 1287 [.ref d, .int below tb] news (fun K => ∀ v t od' oc', 0 ≤ v → v < below → Deck w c (n + 1) od' oc' → K (.int v t) (g2 od' oc')) := by
  have hne : c ≠ d := Nat.ne_of_gt hdc
  have hc : (c, oc) ∈ news := by
    rcases UpdF.mem U1 (UpdF.own (U2 od)) with h | ⟨h, _⟩
    · exact absurd (congrArg Prod.fst h) hne
    · exact h
  refine Cl.mono (draw_rest w p loose mean mg mb d c n od oc below tb (news.filter fun p => p.1 != d && p.1 != c) hn hb hb2 hD hdc ?_ ?_) ?_ ?_
  · intro p hp
    have := (List.mem_filter.mp hp).2
    simp only [Bool.and_eq_true, bne_iff_ne] at this
    exact this.1
  · intro p hp
    have := (List.mem_filter.mp hp).2
    simp only [Bool.and_eq_true, bne_iff_ne] at this
    exact this.2
  · intro p hp
    rcases List.mem_cons.mp hp with rfl | hp
    · exact UpdF.own U1
    · rcases List.mem_cons.mp hp with rfl | hp
      · exact hc
      · exact (List.mem_filter.mp hp).1
  · intro K hK hr v t od' oc' h1 h2 h3
    refine hK _ _ _ ?_ (hr v t od' oc' h1 h2 h3)
    intro p hp
    rcases UpdF.mem (U2 od') hp with rfl | ⟨hp, h4⟩
    · exact .tail _ (.head _)
    · rcases UpdF.mem U1 hp with rfl | ⟨hp, h5⟩
      · exact .head _
      · refine .tail _ (.tail _ (List.mem_filter.mpr ⟨hp, ?_⟩))
        simp only [Bool.and_eq_true, bne_iff_ne]
        exact ⟨h5, h4⟩
theorem isList_new {h₀ h : Heap} {L q : Addr} {news : Led} {vs : List Value} {k : Nat} (N : News h₀ L h news) (hq : (q, W.listOf vs.toArray k) ∈ news) : h.IsList q vs.toArray := ⟨_, (N _ hq).1, rfl, k, rfl⟩
theorem len_new {prog : Program} {w : World} {A : Around} {E : Value → Shared → Prop} {s : Shared} {h₀ : Heap} {L q : Addr} {news : Led} {vs : List Value} {k : Nat} {Q : Value → Shared → Prop} (N : News h₀ L s.heap news) (hq : (q, W.listOf vs.toArray k) ∈ news) (hf : vs.length ≤ 1000)
    (h : Q (.int vs.length (s.toks + 1)) { s with toks := s.toks + 1 + 1 }) : wpAny (model prog w) A (call (.builtin "len") [.ref q]) Q E s :=
  len_list (isList_new N hq) (by rw [List.size_toArray]; omega) (by rw [List.size_toArray]; exact h)
theorem item_new {prog : Program} {w : World} {A : Around} {E : Value → Shared → Prop} {s : Shared} {h₀ : Heap} {L q : Addr} {news : Led} {vs : List Value} {k : Nat} {i : Int} {u : Tok} {Q : Value → Shared → Prop} {value slice : PySem.Expr} (N : News h₀ L s.heap news) (hq : (q, W.listOf vs.toArray k) ∈ news) (hf : vs.length ≤ 1000)
    (h0 : 0 ≤ i) (h1 : i < vs.length) (h : ∀ v, vs[i.toNat]? = some v → Q v s)
    (hs : subscripted slice false (.ref q) (.int i u) = operate [.ref q, .int i u] (getItem (.ref q) (.int i u)) := by with_unfolding_all rfl) : wpAny (model prog w) A (subscriptTail value slice (.ref q) (.int i u)) Q E s := by
  have hlt : i.toNat < vs.length := by omega
  exact tail_any (isList_new N hq).typeIs slot_list_getitem.lookup (wpAny_getItem_list (isList_new N hq) h0 (by omega) (x := vs[i.toNat]) (by simp [hlt]) (h _ (by simp [hlt]))) hs
theorem two_keep {d c q : Addr} {od oc o od' oc' : Obj} {news : Led} {g1 : Obj → Led} {g2 : Obj → Obj → Led} (U1 : UpdF d od news g1) (U2 : ∀ o', UpdF c oc (g1 o') (g2 o')) (hq : (q, o) ∈ news) (h1 : @LT.lt Nat _ d c) (h2 : @LT.lt Nat _ c q) : (q, o) ∈ g2 od' oc' :=
  UpdF.keep (U2 _) (UpdF.keep U1 hq (Nat.ne_of_gt (Nat.lt_trans h1 h2))) (Nat.ne_of_gt h2)
theorem kw_WPick_0 : True := by
  k_with "z6" => skip
  k_with "my kfold" => ((fail_if_success k_extra "z7"); skip)
  k_with "my call builtin:len" => ((fail_if_success k_extra "z7"); ((k_here; (refine len_new (by assumption) (by assumption) (by assumption) ?_))))
  k_with "my subscriptTail" => ((fail_if_success k_extra "z7"); ((k_here; (refine item_new (by assumption) (two_keep (by assumption) (by assumption) (by assumption) (by assumption) (by assumption)) (by assumption) (by assumption) (by assumption) ?_); intro v ev)))
  k_with "my call ref" => ((fail_if_success k_extra "z7"); ((k_here; k_dflt (refine' Cl.use (draw_ok _ _ _ _ _ _ _ _ _ _ _ _ _ _ _ _ ?hD_7 ?hdc_7 ?U1_7 ?U2_7 ?hn_7 ?hb_7 ?hb2_7) ?B_7 ?F_7 ?X_7 ?N_7 ?T_7 ?hk_7 ?hd_7 ?hu_7 ?_; (case hD_7 => assumption); (case hdc_7 => assumption); (case U1_7 => assumption); (case U2_7 => assumption); (case hn_7 => omega); (case hb_7 => omega); (case hb2_7 => omega); (case B_7 => assumption); (case F_7 => k_asm); (case X_7 => assumption); (case N_7 => k_asm); (case T_7 => assumption); (case hk_7 => rfl); (case hd_7 => ktr_room); (case hu_7 => ktr_units)); intro v t od' oc' v1 v2 D' h' tk' F' N')))
  trivial
set_option maxHeartbeats 8000000 in
theorem pick_ok (w : World) (p : Program) (loose : List Str) (mean : ExcName → Option Value) (mg mb : Str → Option Value) (d c q : Addr) (n k : Nat) (od oc : Obj) (vs : List Value) (news : Led) (g1 : Obj → Led) (g2 : Obj → Obj → Led)
    (hD : Deck w c n od oc) (hdc : @LT.lt Nat _ d c) (U1 : UpdF d od news g1) (U2 : ∀ o', UpdF c oc (g1 o') (g2 o')) (hn : n ≤ 1000) (hq : (q, W.listOf vs.toArray k) ∈ news) (hqd : @LT.lt Nat _ c q) (hb : 0 < vs.length) (hb2 : vs.length ≤ 1000) :
    Cl w p loose mean mg mb 4 1294 [.ref d, .ref q] news (fun K => ∀ (i : Nat) v od' oc', vs[i]? = some v → Deck w c (n + 1) od' oc' → K v (g2 od' oc')) := _root_.id <| by
  intro dp un gd cn cs a ccd cl outer A₀ base h₀ L m s Q E B F X N Tp hk hd hu hr
  revert hD hdc U1 U2 hn hq hqd hb hb2 B F X N Tp hk hd hu hr
  revert w p loose mean mg mb d c q n k od oc vs news g1 g2 dp un gd cn cs a ccd cl outer A₀ base h₀ L m s Q E
  k_extra "my d14"; intros w p loose mean mg mb d c q n k od oc vs; k_extra "my of"
  k_extra "my d14"; intros news g1 g2 dp un gd cn cs a ccd cl outer A₀ base; k_extra "my of"
  k_extra "my d6"; intros h₀ L m s Q E; k_extra "my of"
  intros hD hdc U1 U2 hn hq hqd hb hb2 B F X N Tp hk hd hu hr
  haveI mk : Mark := Mark.mk
  refine wpAny_call ?_
  k_dflt cell_enter
  k_extra "my kclose"
  k_extra "my ks2"
  exact hr _ _ _ _ (by assumption) (by assumption) _ _ (by assumption) (by assumption)
end
section
theorem News.sub {h₀ h : Heap} {L : Addr} {l l' : Led} (N : News h₀ L h l) (hs : ∀ p ∈ l', p ∈ l) : News h₀ L h l' := fun p hp => N p (hs p hp)
noncomputable def CXEl (news : Led) (R : Value → Prop) (y : Value) (news' : Led) : Prop := news' = news ∧ R y
section
variable {prog : Program} {w : World} {A : Around} {h₀ : Heap} {L : Addr} {m : Str → Option Value} {env : Env} {elt : PySem.Expr} {x : Str} {scope : Scope} {cl : List (Str × Addr)} {s : Shared} {S : Led → Prop} {P : Nat → Value → Prop} {Fin : List Value → Led → Prop} {news : Led}
theorem cx_rest {n : Nat} (R : Nat → Value → Prop)
    (turn : ∀ i v I oI C oC D m₂ ys h tk (E' : Value → Shared → Prop), i < n → P i v → LCg.NsObj oC m₂ → m₂ x = some v → Fr h₀ L h m → News h₀ L h ((I, oI) :: (C, oC) :: (D, LCg.lst ys) :: news) → LCg.Off3 I C D news → ((@Ne Nat I C) ∧ (@Ne Nat I D) ∧ (@Ne Nat C D)) →
      wpAny (model prog w) A (eval elt (compEnvC scope cl C env)) (LCg.CompEnd h₀ L m { s with heap := h, toks := tk } I oI C oC D (LCg.lst ys) S (fun y news' => CXEl news (R i) y news')) E' { s with heap := h, toks := tk })
    (fin : ∀ ys : List Value, ys.length = n → (∀ i y, ys[i]? = some y → R i y) → Fin ys news) : LCg.CompRest prog w A h₀ L m env elt x scope cl s S P Fin n 0 [] news := by
  have key : ∀ (j i : Nat) (ys : List Value), i + j = n → ys.length = i → (∀ i y, ys[i]? = some y → R i y) → LCg.CompRest prog w A h₀ L m env elt x scope cl s S P Fin j i ys news := by
    intro j
    induction j with
    | zero =>
      intro i ys hi hy hR
      exact LCg.CompRest.zero (fin ys (by omega) hR)
    | succ j ih =>
      intro i ys hi hy hR
      refine LCg.CompRest.succ ?_
      intro v I oI C oC D m₂ h tk E' hv hC hx F N off ne
      refine wpAny_mono (turn i v I oI C oC D m₂ ys h tk E' (by omega) hv hC hx F N off ne) (fun y s₂ hq => ?_) fun _ _ e => e
      obtain ⟨h', tk', nw, e, F', N', off', hS, hn, hy'⟩ := hq
      rw [hn] at N' off' hS
      refine ⟨h', tk', news, e, F', N', off', hS, ?_⟩
      refine ih (i + 1) _ (by omega) (by simp [hy]) ?_
      intro q z hz
      rcases Nat.lt_trichotomy q i with hq | hq | hq
      · rw [List.getElem?_append_left (by omega)] at hz
        exact hR q z hz
      · subst hq
        rw [List.getElem?_append_right (by omega), hy, Nat.sub_self] at hz
        simp only [List.getElem?_cons_zero, Option.some.injEq] at hz
        exact hz ▸ hy'
      · rw [List.getElem?_append_right (by omega)] at hz
        have : q - ys.length ≠ 0 := by omega
        obtain ⟨z', e⟩ := Nat.exists_eq_succ_of_ne_zero this
        rw [e] at hz
        simp at hz
  exact key n 0 [] (by omega) rfl (by intro i y h; simp at h)
theorem cx_range {n : Nat} {a : Int} (R : Nat → Value → Prop)
    (turn : ∀ (i : Nat) t I oI C oC D m₂ ys h tk (E' : Value → Shared → Prop), i < n → LCg.NsObj oC m₂ → m₂ x = some (.int (a + (i : Int)) t) → Fr h₀ L h m → News h₀ L h ((I, oI) :: (C, oC) :: (D, LCg.lst ys) :: news) → LCg.Off3 I C D news → ((@Ne Nat I C) ∧ (@Ne Nat I D) ∧ (@Ne Nat C D)) →
      wpAny (model prog w) A (eval elt (compEnvC scope cl C env)) (LCg.CompEnd h₀ L m { s with heap := h, toks := tk } I oI C oC D (LCg.lst ys) S (fun y news' => CXEl news (R i) y news')) E' { s with heap := h, toks := tk })
    (fin : ∀ ys : List Value, ys.length = n → (∀ i y, ys[i]? = some y → R i y) → Fin ys news) : LCg.CompRest prog w A h₀ L m env elt x scope cl s S (fun i v => ∃ t, v = .int (a + (i : Int)) t) Fin n 0 [] news :=
  cx_rest R (fun i v I oI C oC D m₂ ys h tk E' hi ⟨t, e⟩ hC hx F N off ne => turn i t I oI C oC D m₂ ys h tk E' hi hC (e ▸ hx) F N off ne) fin
theorem cx_list {vs : List Value} (R : Nat → Value → Prop)
    (turn : ∀ (i : Nat) v I oI C oC D m₂ ys h tk (E' : Value → Shared → Prop), vs[i]? = some v → LCg.NsObj oC m₂ → m₂ x = some v → Fr h₀ L h m → News h₀ L h ((I, oI) :: (C, oC) :: (D, LCg.lst ys) :: news) → LCg.Off3 I C D news → ((@Ne Nat I C) ∧ (@Ne Nat I D) ∧ (@Ne Nat C D)) →
      wpAny (model prog w) A (eval elt (compEnvC scope cl C env)) (LCg.CompEnd h₀ L m { s with heap := h, toks := tk } I oI C oC D (LCg.lst ys) S (fun y news' => CXEl news (R i) y news')) E' { s with heap := h, toks := tk })
    (fin : ∀ ys : List Value, ys.length = vs.length → (∀ i y, ys[i]? = some y → R i y) → Fin ys news) : LCg.CompRest prog w A h₀ L m env elt x scope cl s S (fun i v => vs.toArray[i]? = some v) Fin vs.toArray.size 0 [] news :=
  cx_rest R (fun i v I oI C oC D m₂ ys h tk E' _ hv hC hx F N off ne => turn i v I oI C oC D m₂ ys h tk E' (by simpa using hv) hC hx F N off ne) (fun ys hl => fin ys (by simpa using hl))
theorem cx_end {L I C D : Addr} {s₁ : Shared} {oI oC oD : Obj} {R : Value → Prop} {y : Value} {h' : Heap} {tk : Nat} {all : Led}
    (F : Fr h₀ L h' m) (N : News h₀ L h' all) (sub : ∀ p ∈ (I, oI) :: (C, oC) :: (D, oD) :: news, p ∈ all) (off : LCg.Off3 I C D news) (hS : S news) (r : R y) :
    LCg.CompEnd h₀ L m s₁ I oI C oC D oD S (fun y news' => CXEl news R y news') y { s₁ with heap := h', toks := tk } := LCg.CompEnd.intro F N news sub off hS ⟨rfl, r⟩
end
end
section
section
variable {prog : Program} {w : World} {A : Around} {E : Value → Shared → Prop} {s : Shared} {h₀ : Heap} {L : Addr} {m : Str → Option Value} {news : List (Addr × Obj)} {l : Addr} {vs : List Value} {x : Int} {u : Tok} {Q : Value → Shared → Prop}
theorem mul_new (Fm : Fr h₀ L s.heap m) (N : News h₀ L s.heap news) (hl : s.heap.IsList l vs.toArray) (hlo : -(2 ^ 63 : Int) ≤ x) (hhi : x < 2 ^ 63) (hsz : vs.length * x.toNat ≤ 256)
    (h : ∀ D h' its, Fr h₀ L h' m → News h₀ L h' ((D, listOf its 0) :: news) → (∀ p ∈ news, p.1 < D) → Q (.ref D) { s with heap := h' }) : wpAny (model prog w) A (binaryOp .Mult (.ref l) (.int x u)) Q E s :=
  KMa.mul Fm N hl hlo hhi hsz rfl fun D h' F' N' l' => h D h' _ F' N' l'
end
theorem kw_WGrid_0 : True := by
  k_with "z7" => skip
  k_with "my kf" => ((fail_if_success k_extra "z9"); skip)
  k_with "my binaryOp Mult ref int" => ((fail_if_success k_extra "z9"); ((k_here; (with_reducible show wpAny _ _ (binaryOp Operator.Mult (Value.ref _) (Value.int _ _)) _ _ _); (refine mul_new (by k_asm) (by k_asm) (by is_list) (by (try split) <;> omega) (by (try split) <;> omega) (by simp only [List.length_cons, List.length_nil]; (try split) <;> omega) ?_); intro D' h' its' F' N' l1; (try k_lt l1))))
  k_with "my CompSrc" => ((fail_if_success k_extra "z9"); ((k_here; k_dflt (refine LCg.CompSrc.range (by rfl) (by k_asm) (by k_asm) (by assumption) (by first | exact small_one (by kcf_bnd) (by kcf_bnd) (by kcf_bnd) (by kcf_bnd) | decide) (by first | exact rangeSize_nat _ _ | rfl) (by first | exact Nat.le_of_ble_eq_true rfl | (rw [PySem.sizeLine_eq]; omega)) ?_; intro g'; (refine' cx_range (fun _ _ => True) (fun i' t' I' oI' C' oC' D' m' ys' h' tk' E' hi' hC' hx' F' N' off' ne' => ?_) ?_); (all_goals (try (simp only [LCg.Off3, and_true] at off'))); kcf_last))))
  k_with "my CompEnd" => ((fail_if_success k_extra "z9"); ((refine cx_end (by assumption) (by assumption) (by kcf_all) (by first | assumption | (simp only [LCg.Off3, and_true]; done) | (simp only [LCg.Off3, and_true]; assumption)) (by first | lcg_src | assumption | exact True.intro) True.intro)))
  trivial
set_option maxHeartbeats 8000000 in
theorem grid_ok (w : World) (p : Program) (loose : List Str) (mean : ExcName → Option Value) (mg mb : Str → Option Value) (r c : Int) (t1 t2 : Tok) (news : Led) (hr1 : 1 ≤ r) (hr2 : r ≤ 9) (hc1 : 1 ≤ c) (hc2 : c ≤ 9) :
    Cl w p loose mean mg mb 8 987 [.int r t1, .int c t2] news (fun K => ∀ g, K (.ref g) news) := _root_.id <| by
  intro dp un gd cn cs a ccd cl outer A₀ base h₀ L m s Q E B F X N Tp hk hd hu hr
  k_dflt (refine' call_cls ?k1 ?k2 ?k3 ?k4 ?k5 ?k6 ?_; (case k1 => k_asm); (case k2 => k_asm); (case k3 => k_asm); (case k4 => k_is); (case k5 => k_is); (case k6 => k_is); k_whole; intro x' d' h' F' N' l1 l2; (try k_lt l1); (try k_lt2 l2); (first | (refine' code_def ?k1 ?k2 ?k3 ?k4 ?k5 ?kA ?kF ?kK ?k6 ?k7 ?k8 ?k9 ?kB ?_ ?c2 ?c3 ?c4 ?c5; (case kA => exact rfl); (case kF => exact rfl); (case kK => assumption); (case k1 => k_asm); (case k2 => k_asm); (case k3 => k_asm); (case k4 => k_asm); (case k5 => k_asm); (case k6 => k_is); (case k7 => k_is); (case k8 => k_room); (case k9 => first | exact BindsTo.of_eq rfl | exact binds_K (by k_in) rfl (by k_is) rfl rfl rfl); (case c5 => decide); (case kB => exact locs rfl); (case c2 => exact rfl); (case c3 => exact rfl); (case c4 => exact rfl); k_whole; intro g' L' h' FG' F' N' B' X' T'; (try dsimp only); (try k_fold)) | (refine' code_defC ?k1 ?k2 ?k3 ?k4 ?k5 ?kA ?kF ?kK ?k6 ?k7 ?k8 ?k9 ?kB ?kD ?_ ?c2 ?c3 ?c4; (case kA => exact rfl); (case kF => exact rfl); (case kK => assumption); (case k1 => k_asm); (case k2 => k_asm); (case k3 => k_asm); (case k4 => k_asm); (case k5 => k_asm); (case k6 => k_is); (case k7 => k_is); (case k8 => k_room); (case k9 => first | exact BindsTo.of_eq rfl | exact binds_K (by k_in) rfl (by k_is) rfl rfl rfl); (case kB => exact rfl); (case kD => decide +kernel); (case c2 => exact rfl); (case c3 => exact rfl); (case c4 => exact rfl); k_whole; intro g' L' h' tk' cells' FG' F' N' Y' B' X' T' l1; (try k_lt l1); k_cells Y'; (try simp only [List.cons_append, List.nil_append] at N'); (try dsimp only); (try k_lift B'); (try k_fold))))
  k_steps
  exact hr _ _ _ (by assumption) (News.sub (by assumption) (by kcf_all))
end
section
noncomputable abbrev en (w : World) (x : String) (t : Tok) (v : Value) : DictEntry := ⟨PyData.keyHash w.params (Str.ofString x), .str (Str.ofString x) t, v⟩
theorem kw_WTab_0 : True := by
  k_with "z9" => skip
  k_with "my kfold" => ((fail_if_success k_extra "z10"); skip)
  k_with "my e0" => ((fail_if_success k_extra "z10"); ((refine' code_def ?k1_11 ?k2_11 ?k3_11 ?k4_11 ?k5_11 ?kA_11 ?kF_11 ?kK_11 ?k6_11 ?k7_11 ?k8_11 ?k9_11 ?kB_11 ?_ ?c2_11 ?c3_11 ?c4_11 ?c5_11; (case kA_11 => exact rfl); (case kF_11 => exact rfl); (case kK_11 => assumption); (case k1_11 => k_asm); (case k2_11 => k_asm); (case k3_11 => k_asm); (case k4_11 => k_asm); (case k5_11 => k_asm); (case k6_11 => k_is); (case k7_11 => k_is); (case k8_11 => k_room); (case k9_11 => first | exact BindsTo.of_eq rfl | exact binds_K (by k_in) rfl (by k_is) rfl rfl rfl); (case c5_11 => decide); (case kB_11 => exact locs rfl); (case c2_11 => exact rfl); (case c3_11 => exact rfl); (case c4_11 => exact rfl); k_whole; intro g' L' h' FG' F' N' B' X' T'; (try dsimp only))))
  k_with "my kf" => ((fail_if_success k_extra "z10"); (k_extra "my kclose"))
  trivial
theorem News.tl {h₀ h : Heap} {L : Addr} {p : Addr × Obj} {l : Led} (N : News h₀ L h (p :: l)) : News h₀ L h l := fun q hq => N q (.tail _ hq)
theorem unr_end_head {h₀ : Heap} {L I : Addr} {it : Obj} {rest : (Str → Option Value) → List (Addr × Obj) → Prop} {s₁ : Shared} {h' : Heap} {tk : Nat} {m' : Str → Option Value} {news' : Led} (F : Fr h₀ L h' m') (N : News h₀ L h' ((I, it) :: news'))
    (off : ∀ p ∈ news', p.1 ≠ I) (r : rest m' news') : UnrEnd h₀ L s₁ I it rest { s₁ with heap := h', toks := tk } := UnrEnd.intro F N news' (fun _ h => h) off r
noncomputable def stopsOf (c : Int) : List (Int × Value) := if c = 9 then [(8, .bool true)] else []
theorem kw_WTab_1 : True := by
  k_with "my UnrEnd" => ((fail_if_success k_extra "z10"); ((k_here; first | (refine unr_end_head (by assumption) (by assumption) (by k_all) ?_) | (refine unr_end_head (by assumption) (News.tl (by assumption)) (by k_all) ?_) | (refine unr_end_head (by assumption) (News.tl (News.tl (by assumption))) (by k_all) ?_) | (refine unr_end_head (by assumption) (News.tl (News.tl (News.tl (by assumption)))) (by k_all) ?_))))
  trivial
set_option maxHeartbeats 8000000 in
theorem tabs_new9 (w : World) (p : Program) (loose : List Str) (mean : ExcName → Option Value) (mg mb : Str → Option Value) (news : Led) (u : Tok) :
    Cl w p loose mean mg mb 6 673 [.int 9 u] news (fun K => ∀ g d st ost t0 t1, (∀ p ∈ news, p.1 < d) → @LT.lt Nat _ d g → @LT.lt Nat _ g st → ost.IsDictOf (intKind pw w) [(8, .bool true)] → K (.ref g) ((st, ost) :: (g, instObj 673 d) :: (d, dictOf [en w "columns" t0 (.int 9 u), en w "stops" t1 (.ref st)] 2) :: news)) := _root_.id <| by
  intro dp un gd cn cs a ccd cl outer A₀ base h₀ L m s Q E B F X N Tp hk hd hu hr
  revert B F X N Tp hk hd hu hr
  revert w p loose mean mg mb news u dp un gd cn cs a ccd cl outer A₀ base h₀ L m s Q E
  k_extra "my d14"; intros w p loose mean mg mb news u dp un gd cn cs a; k_extra "my of"
  k_extra "my d8"; intros ccd cl outer A₀ base h₀ L m; k_extra "my of"
  k_extra "my d3"; intros s Q E; k_extra "my of"
  intros B F X N Tp hk hd hu hr
  haveI mk : Mark := Mark.mk
  k_dflt (refine' call_cls ?k1 ?k2 ?k3 ?k4 ?k5 ?k6 ?_; (case k1 => k_asm); (case k2 => k_asm); (case k3 => k_asm); (case k4 => k_is); (case k5 => k_is); (case k6 => k_is); k_whole; intro x' d' h' F' N' l1 l2; (try k_lt l1); (try k_lt2 l2); (first | k_extra "my e0" | (refine' code_defC ?k1 ?k2 ?k3 ?k4 ?k5 ?kA ?kF ?kK ?k6 ?k7 ?k8 ?k9 ?kB ?kD ?_ ?c2 ?c3 ?c4; (case kA => exact rfl); (case kF => exact rfl); (case kK => assumption); (case k1 => k_asm); (case k2 => k_asm); (case k3 => k_asm); (case k4 => k_asm); (case k5 => k_asm); (case k6 => k_is); (case k7 => k_is); (case k8 => k_room); (case k9 => first | exact BindsTo.of_eq rfl | exact binds_K (by k_in) rfl (by k_is) rfl rfl rfl); (case kB => exact rfl); (case kD => decide +kernel); (case c2 => exact rfl); (case c3 => exact rfl); (case c4 => exact rfl); k_whole; intro g' L' h' tk' cells' FG' F' N' Y' B' X' T' l1; (try k_lt l1); k_cells Y'; (try simp only [List.cons_append, List.nil_append] at N'); (try dsimp only); (try k_lift B'))))
  k_extra "my kclose"
  k_extra "my ks2"
  refine' hr _ _ _ _ _ _ ?a ?b ?c ?d _ _ ?e ?f
  case e => assumption
  case f => assumption
  case a => assumption
  case b => assumption
  case c => omega
  case d => assumption

set_option maxHeartbeats 8000000 in
theorem tabs_new6 (w : World) (p : Program) (loose : List Str) (mean : ExcName → Option Value) (mg mb : Str → Option Value) (news : Led) (u : Tok) :
    Cl w p loose mean mg mb 6 673 [.int 6 u] news (fun K => ∀ g d st ost t0 t1, (∀ p ∈ news, p.1 < d) → @LT.lt Nat _ d g → @LT.lt Nat _ g st → ost.IsDictOf (intKind pw w) [] → K (.ref g) ((st, ost) :: (g, instObj 673 d) :: (d, dictOf [en w "columns" t0 (.int 6 u), en w "stops" t1 (.ref st)] 2) :: news)) := _root_.id <| by
  intro dp un gd cn cs a ccd cl outer A₀ base h₀ L m s Q E B F X N Tp hk hd hu hr
  revert B F X N Tp hk hd hu hr
  revert w p loose mean mg mb news u dp un gd cn cs a ccd cl outer A₀ base h₀ L m s Q E
  k_extra "my d14"; intros w p loose mean mg mb news u dp un gd cn cs a; k_extra "my of"
  k_extra "my d8"; intros ccd cl outer A₀ base h₀ L m; k_extra "my of"
  k_extra "my d3"; intros s Q E; k_extra "my of"
  intros B F X N Tp hk hd hu hr
  haveI mk : Mark := Mark.mk
  k_dflt (refine' call_cls ?k1 ?k2 ?k3 ?k4 ?k5 ?k6 ?_; (case k1 => k_asm); (case k2 => k_asm); (case k3 => k_asm); (case k4 => k_is); (case k5 => k_is); (case k6 => k_is); k_whole; intro x' d' h' F' N' l1 l2; (try k_lt l1); (try k_lt2 l2); (first | k_extra "my e0" | (refine' code_defC ?k1 ?k2 ?k3 ?k4 ?k5 ?kA ?kF ?kK ?k6 ?k7 ?k8 ?k9 ?kB ?kD ?_ ?c2 ?c3 ?c4; (case kA => exact rfl); (case kF => exact rfl); (case kK => assumption); (case k1 => k_asm); (case k2 => k_asm); (case k3 => k_asm); (case k4 => k_asm); (case k5 => k_asm); (case k6 => k_is); (case k7 => k_is); (case k8 => k_room); (case k9 => first | exact BindsTo.of_eq rfl | exact binds_K (by k_in) rfl (by k_is) rfl rfl rfl); (case kB => exact rfl); (case kD => decide +kernel); (case c2 => exact rfl); (case c3 => exact rfl); (case c4 => exact rfl); k_whole; intro g' L' h' tk' cells' FG' F' N' Y' B' X' T' l1; (try k_lt l1); k_cells Y'; (try simp only [List.cons_append, List.nil_append] at N'); (try dsimp only); (try k_lift B'))))
  k_extra "my kclose"
  k_extra "my ks2"
  refine' hr _ _ _ _ _ _ ?a ?b ?c ?d _ _ ?e ?f
  case e => assumption
  case f => assumption
  case a => assumption
  case b => assumption
  case c => omega
  case d => assumption

theorem tabs_new (w : World) (p : Program) (loose : List Str) (mean : ExcName → Option Value) (mg mb : Str → Option Value) (news : Led) (c : Int) (u : Tok) (hc : c = 9 ∨ c = 6) :
    Cl w p loose mean mg mb 6 673 [.int c u] news (fun K => ∀ g d st ost t0 t1, (∀ p ∈ news, p.1 < d) → @LT.lt Nat _ d g → @LT.lt Nat _ g st → ost.IsDictOf (intKind pw w) (stopsOf c) → K (.ref g) ((st, ost) :: (g, instObj 673 d) :: (d, dictOf [en w "columns" t0 (.int c u), en w "stops" t1 (.ref st)] 2) :: news)) := by
  rcases hc with rfl | rfl
  · exact tabs_new9 w p loose mean mg mb news u
  · exact tabs_new6 w p loose mean mg mb news u
end
section
section
variable {prog : Program} {w : World} {A₀ A : Around} {s : Shared} {base h₀ : Heap} {outer : List Env} {L : Addr} {m mg mb : Str → Option Value} {env : Env} {small rest : Led} {K : Frag} {p : Program} {loose : List Str} {mean : ExcName → Option Value}
  {R : Result → Shared → Prop} {name qual : Str} {params : Arguments} {body : List Stmt} {scope : Scope} {dV kV doc pm cdv ct oc : Value} {an od : Option Addr} {osl : Array (Option Value)} {f : Addr} {args : Args} {binds : List (Str × Value)}
noncomputable def Kept (g : Heap) (rest : Led) : Prop := ∀ p ∈ rest, g.get? p.1 = some p.2
noncomputable def Apart (small rest : Led) : Prop := ∀ p ∈ rest, ∀ q ∈ small, p.1 ≠ q.1
theorem kept_hide (N : News h₀ L s.heap (small ++ rest)) (dis : Apart small rest) : Kept (hideAll s.heap (small.map (·.1))) rest := fun p hp =>
  hideAll_get _ (N p (List.mem_append_right _ hp)).1 fun q => by
    obtain ⟨r, hr, e⟩ := List.mem_map.mp q
    exact dis p hp r hr e.symm
theorem code_defR (dis : Apart small rest)
    (B : Below A₀ base outer h₀) (F : Fr h₀ L s.heap m) (X₀ : K.In h₀) (N : News h₀ L s.heap (small ++ rest)) (T : Top p loose mean mg mb h₀) (hA : A.frames = some (env :: outer)) (hf : env.frame = some L) (hke : env.scope.kind = .function)
    (ho : K.lookup f = some ⟨oc, od, .func (fnOf name qual params body scope dV kV doc pm an cdv ct), osl⟩) (hcd : codeIn K cdv qual = true) (hroom : A.depth < recursionLimit)
    (hbind : BindsTo s (fnOf name qual params body scope dV kV doc pm an cdv ct) args binds) (hloc : ∀ y ∈ binds, scope.names.lookup y.1 = some .local)
    (h : ∀ g L' h₁, Fr h₀ L g m → Fr g L' h₁ (fun y => binds.reverse.lookup y) → News g L' h₁ small → Below A base (env :: outer) g → K.In g → Top p loose mean mg mb g → Kept g rest → (∀ p ∈ small ++ rest, p.1 < L') →
      wpAny (model prog w) (A.deeper (envOf qual scope L' f cdv)) (execs body (envOf qual scope L' f cdv))
        (fun fl s' => LeaveK h₀ L m g R (match fl with | .ret v => v | _ => .none) s')
        (fun e s' => wpAny (model prog w) (A.deeper (envOf qual scope L' f cdv)) (leaving (envOf qual scope L' f cdv) e) (fun _ s'' => R (.error e) s'') (fun e' s'' => R (.error e') s'') s')
        { s with heap := h₁, toks := s.toks + binds.length })
    (hco : scope.isCoroutine = false) (hgen : scope.isGenerator = false) (hk : scope.kind = .function)
    (hcell : ∀ x ∈ scope.names, x.2 ≠ .cell) : codeAny (model prog w) A (.call (.ref f) args) R s := by
  have N1 : News h₀ L s.heap small := fun p hp => N p (List.mem_append_left _ hp)
  obtain ⟨FG, BG, st, lv⟩ := groundX (R := R) B F N1 hA hf hke
  refine codeAny_call_def (fd := fnOf name qual params body scope dV kV doc pm an cdv ct) (body := body) (binds := binds) hroom ((X₀.keeps F.keep) _ _ ho) rfl (T.nolimit.keeps F.keep) (codeRec_of (X₀.keeps F.keep) hcd) rfl hbind hcell hloc (fun h₁ hns hk₁ => ?_) hco hgen hk
  exact wpAny_mono (h _ s.heap.objs.size h₁ FG ⟨hns, fun b o e => hk₁ b o (of_hideAll _ e), Nat.le_of_eq (hideAll_size _ _)⟩
    (fun p hp => ⟨hk₁ _ _ (N1 p hp).1, Nat.ne_of_lt (Heap.lt_size (N1 p hp).1), hideAll_none _ (List.mem_map_of_mem hp)⟩) BG (X₀.keeps st) (T.keeps st) (kept_hide N dis) (fun p hp => Heap.lt_size (N p hp).1)) (fun fl s' hl => lv _ _ hl) fun _ _ y => y
theorem code_defCR (dis : Apart small rest)
    (B : Below A₀ base outer h₀) (F : Fr h₀ L s.heap m) (X₀ : K.In h₀) (N : News h₀ L s.heap (small ++ rest)) (T : Top p loose mean mg mb h₀) (hA : A.frames = some (env :: outer)) (hf : env.frame = some L) (hke : env.scope.kind = .function)
    (ho : K.lookup f = some ⟨oc, od, .func (fnOf name qual params body scope dV kV doc pm an cdv ct), osl⟩) (hcd : codeIn K cdv qual = true) (hroom : A.depth < recursionLimit)
    (hbind : BindsTo s (fnOf name qual params body scope dV kV doc pm an cdv ct) args binds) (hkind : (binds.all fun y => scope.names.lookup y.1 == some .local || scope.names.lookup y.1 == some .cell) = true)
    (hnd : ((cellsFrom 0 scope.names []).map (·.1)).Nodup)
    (h : ∀ g L' h₁ tk cells, Fr h₀ L g m → Fr g L' h₁ (bindL (envOfC qual scope L' f cdv).kindOf binds fun _ => none) → News g L' h₁ (cells ++ small) →
      CellsAre (bindC (envOfC qual scope L' f cdv).kindOf binds fun _ => none) (cellsFrom (L' + 1) scope.names []) cells → Below A base (env :: outer) g → K.In g → Top p loose mean mg mb g → Kept g rest → (∀ p ∈ small ++ rest, p.1 < L') →
      wpAny (model prog w) (A.deeper (envOfC qual scope L' f cdv)) (execs body (envOfC qual scope L' f cdv))
        (fun fl s' => LeaveK h₀ L m g R (match fl with | .ret v => v | _ => .none) s')
        (fun e s' => wpAny (model prog w) (A.deeper (envOfC qual scope L' f cdv)) (leaving (envOfC qual scope L' f cdv) e) (fun _ s'' => R (.error e) s'') (fun e' s'' => R (.error e') s'') s')
        { s with heap := h₁, toks := tk })
    (hco : scope.isCoroutine = false) (hgen : scope.isGenerator = false) (hk : scope.kind = .function) : codeAny (model prog w) A (.call (.ref f) args) R s := by
  have N1 : News h₀ L s.heap small := fun p hp => N p (List.mem_append_left _ hp)
  obtain ⟨FG, BG, st, lv⟩ := groundX (R := R) B F N1 hA hf hke
  refine codeAny_call_function hroom ((X₀.keeps F.keep) _ _ ho) rfl hco hgen rfl (codeRec_of (X₀.keeps F.keep) hcd) (hbind _ _ _ _ ?_)
  refine wpAny_newFunctionEnv_cells hk (kindsX hkind _) fun env' he s' x => ?_
  subst he
  refine ⟨(T.nolimit.keeps F.keep).keeps x.toInCall.keep, codeAny_func ?_⟩
  obtain ⟨h₁, tk, rfl, _⟩ := x.done
  have hk₁ := x.toInCall.keep
  obtain ⟨cells, NC, Y⟩ := Cl.news (h₀ := s.heap) (Nat.le_refl _) fun n c hm => ⟨x.cell n c (lookup_of_mem_nodup (cellsFrom_names scope.names 0 (s.heap.objs.size + 1) [] [] rfl ▸ hnd) hm), x.above n c hm⟩
  refine wpAny_mono (h _ s.heap.objs.size h₁ tk cells FG ⟨x.toInCall.ns, fun b o e => hk₁ b o (of_hideAll _ e), Nat.le_of_eq (hideAll_size _ _)⟩ (fun p hp => ?_) Y BG (X₀.keeps st) (T.keeps st) (kept_hide N dis) (fun p hp => Heap.lt_size (N p hp).1)) (fun fl s' hl => lv _ _ hl) fun _ _ y => y
  rcases List.mem_append.mp hp with hp | hp
  · refine ⟨(NC p hp).1, (NC p hp).2.1, ?_⟩
    cases q : (hideAll s.heap (small.map (·.1))).get? p.1 with
    | none => rfl
    | some o => have := of_hideAll _ q; rw [(NC p hp).2.2] at this; cases this
  · exact ⟨hk₁ _ _ (N1 p hp).1, Nat.ne_of_lt (Heap.lt_size (N1 p hp).1), hideAll_none _ (List.mem_map_of_mem hp)⟩
theorem kept_join {h h' g : Heap} {L' : Addr} {m' : Str → Option Value} {all l : Led} (N : News h₀ L h (small ++ rest)) (k : Kept g rest) (F' : Fr g L' h' m') (N' : News h₀ L h' all) (sub : ∀ p ∈ l, p ∈ all) : News h₀ L h' (l ++ rest) := fun p hp => by
  rcases List.mem_append.mp hp with hp | hp
  · exact N' p (sub p hp)
  · exact ⟨F'.keep _ _ (k p hp), (N p (List.mem_append_right _ hp)).2⟩
theorem kept_apart {h' g : Heap} {L' : Addr} {all l : Led} (k : Kept g rest) (N' : News g L' h' all) (sub : ∀ p ∈ l, p ∈ all) : Apart l rest := fun p hp q hq e => by
  have h1 := k p hp
  rw [e, (N' q (sub q hq)).2.2] at h1
  cases h1
end
noncomputable def Cq (w : World) (p : Program) (loose : List Str) (mean : ExcName → Option Value) (mg mb : Str → Option Value) (D : Nat) (f : Addr) (vs : List Value) (small : Led) (P : Value → Led → Prop) : Prop :=
  ∀ rest, Apart small rest → Cl w p loose mean mg mb D f vs (small ++ rest) (fun K => ∀ v l, P v l → Apart l rest → K v (l ++ rest))
noncomputable def Cr (w : World) (p : Program) (loose : List Str) (mean : ExcName → Option Value) (mg mb : Str → Option Value) (D : Nat) (f : Addr) (vs : List Value) (small : Led) (P : Value → Led → Prop) : Prop :=
  ∀ rest, Apart small rest → Cl w p loose mean mg mb D f vs (small ++ rest) (fun K => ∀ v l, P v l → Apart l (small ++ rest) → K v (l ++ (small ++ rest)))
theorem kept_joinR {g h h' : Heap} {L L' : Addr} {h₀ : Heap} {m' : Str → Option Value} {small rest all l : Led} (N : News h₀ L h (small ++ rest)) (k : Kept g rest) (F' : Fr g L' h' m') (N' : News h₀ L h' all) (sub : ∀ p ∈ l ++ small, p ∈ all) : News h₀ L h' (l ++ (small ++ rest)) := by
  rw [← List.append_assoc]
  exact kept_join N k F' N' sub
theorem apart_app {small rest l : Led} (a : ∀ q ∈ l, ∀ p ∈ small, p.1 ≠ q.1) (b : Apart l rest) : Apart l (small ++ rest) := fun p hp q hq => by
  rcases List.mem_append.mp hp with hp | hp
  · exact a q hq p hp
  · exact b p hp q hq
theorem Cr.use {w : World} {p : Program} {loose : List Str} {mean : ExcName → Option Value} {mg mb : Str → Option Value} {D : Nat} {f : Addr} {vs : List Value} {small news : Led} {P : Value → Led → Prop} {dp un : Nat} {gd : Option (List Code)} {cn : Str} {cs : Scope} {a : Addr} {ccd : Value} {cl : List (Str × Addr)} {outer : List Env} {A₀ : Around} {base h₀ : Heap} {L : Addr} {m : Str → Option Value} {s : Shared} {Q E : Value → Shared → Prop}
    (C : Cr w p loose mean mg mb D f vs small P) (hs : ∀ q ∈ small, q ∈ news) (B : Below A₀ base outer h₀) (F : Fr h₀ L s.heap m) (X : (KK w.params).In h₀) (N : News h₀ L s.heap news) (T : Top p loose mean mg mb h₀) (hk : cs.kind = .function) (hd : dp + D < recursionLimit) (hu : un + 100 * D < cLine)
    (r : ∀ v l, P v l → Apart l news → ∀ h' tk', Fr h₀ L h' m → News h₀ L h' (l ++ news) → Q v { s with heap := h', toks := tk' }) :
    wpAny (model pw w) (ktrTop dp un gd cn cs L a ccd cl outer) (call (.ref f) vs) Q E s := by
  have dis : Apart small (news.filter fun p => decide (p.1 ∉ small.map (·.1))) := fun p hp q hq e => by
    have := of_decide_eq_true (List.mem_filter.mp hp).2
    exact this (List.mem_map.mpr ⟨q, hq, e.symm⟩)
  have all : ∀ p ∈ news, p ∈ small ++ news.filter fun p => decide (p.1 ∉ small.map (·.1)) := fun p hp => by
    by_cases h : p.1 ∈ small.map (·.1)
    · obtain ⟨q, hq, e⟩ := List.mem_map.mp h
      have h1 := (N _ hp).1
      have h2 := (N _ (hs q hq)).1
      rw [← e, h2] at h1
      have : q = p := Prod.ext e (Option.some.inj h1)
      exact List.mem_append_left _ (this ▸ hq)
    · exact List.mem_append_right _ (List.mem_filter.mpr ⟨hp, decide_eq_true h⟩)
  refine Cl.use (C _ dis) B F X (News.sub N fun p hp => ?_) T hk hd hu ?_
  · rcases List.mem_append.mp hp with hp | hp
    · exact hs p hp
    · exact (List.mem_filter.mp hp).1
  · intro v l hP ap h' tk' F' N'
    refine r v l hP (fun p hp => ap p (all p hp)) h' tk' F' (fun p hp => ?_)
    rcases List.mem_append.mp hp with hp | hp
    · exact N' p (List.mem_append_left _ hp)
    · exact N' p (List.mem_append_right _ (all p hp))
theorem Cq.use {w : World} {p : Program} {loose : List Str} {mean : ExcName → Option Value} {mg mb : Str → Option Value} {D : Nat} {f : Addr} {vs : List Value} {small news : Led} (rest : Led) {P : Value → Led → Prop} {dp un : Nat} {gd : Option (List Code)} {cn : Str} {cs : Scope} {a : Addr} {ccd : Value} {cl : List (Str × Addr)} {outer : List Env} {A₀ : Around} {base h₀ : Heap} {L : Addr} {m : Str → Option Value} {s : Shared} {Q E : Value → Shared → Prop}
    (C : Cq w p loose mean mg mb D f vs small P) (dis : Apart small rest) (hs : ∀ q ∈ small ++ rest, q ∈ news) (B : Below A₀ base outer h₀) (F : Fr h₀ L s.heap m) (X : (KK w.params).In h₀) (N : News h₀ L s.heap news) (T : Top p loose mean mg mb h₀) (hk : cs.kind = .function) (hd : dp + D < recursionLimit) (hu : un + 100 * D < cLine)
    (r : ∀ v l, P v l → Apart l rest → ∀ h' tk', Fr h₀ L h' m → News h₀ L h' (l ++ rest) → Q v { s with heap := h', toks := tk' }) :
    wpAny (model pw w) (ktrTop dp un gd cn cs L a ccd cl outer) (call (.ref f) vs) Q E s := Cl.use (C rest dis) B F X (News.sub N hs) T hk hd hu r
theorem News.cons2 {h₀ h : Heap} {L : Addr} {a b : Addr × Obj} {l r : Led} (N : News h₀ L h (a :: b :: (l ++ r))) : News h₀ L h ((a :: b :: l) ++ r) := N
theorem apart2 {small rest : Led} {x d : Addr} {ox od : Obj} (dis : Apart small rest) (l1 : ∀ p ∈ small ++ rest, p.1 < d) (l2 : @LT.lt Nat _ d x) : Apart ((x, ox) :: (d, od) :: small) rest := fun p hp q hq => by
  have h := l1 p (List.mem_append_right _ hp)
  rcases List.mem_cons.mp hq with rfl | hq
  · exact Nat.ne_of_lt (Nat.lt_trans h l2)
  · rcases List.mem_cons.mp hq with rfl | hq
    · exact Nat.ne_of_lt h
    · exact dis p hp q hq
theorem lt_small {small rest : Led} {d : Addr} (l : ∀ p ∈ small ++ rest, p.1 < d) : ∀ p ∈ small, p.1 < d := fun p hp => l p (List.mem_append_left _ hp)
end
section
noncomputable abbrev fv (fl : Flow) : Value := match fl with | .ret v => v | _ => .none
noncomputable def BodyC (w : World) (p : Program) (loose : List Str) (mean : ExcName → Option Value) (mg mb : Str → Option Value) (D : Nat) (qual : Str) (scope : Scope) (f : Addr) (cdv : Value) (body : List Stmt) (m₀ : Str → Option Value) (small : Led) (P : Value → Led → Prop) : Prop :=
  ∀ (dp un : Nat) (gd : Option (List Code)) (outer : List Env) (A₀ : Around) (base g : Heap) (L : Addr) (h : Heap) (tk : Nat) (gs : Array GenState) (dr : Drawn) (os : OsState) (Q : Flow → Shared → Prop),
    Below A₀ base outer g → (KK w.params).In g → Top p loose mean mg mb g → Fr g L h m₀ → News g L h small → (∀ q ∈ small, q.1 < L) → dp + D < recursionLimit → un + 100 * D < cLine →
    (∀ fl all l h' tk' m', Fr g L h' m' → News g L h' all → (∀ q ∈ l, q ∈ all) → P (fv fl) l → Q fl ⟨h', gs, dr, tk', os⟩) →
    wpAny (model pw w) (ktrTop dp un gd qual scope L f cdv [] outer) (execs body (envX qual scope L f cdv [])) Q (fun _ _ => False) ⟨h, gs, dr, tk, os⟩
noncomputable def BodyR (w : World) (p : Program) (loose : List Str) (mean : ExcName → Option Value) (mg mb : Str → Option Value) (D : Nat) (qual : Str) (scope : Scope) (f : Addr) (cdv : Value) (body : List Stmt) (m₀ : Str → Option Value) (small : Led) (P : Value → Led → Prop) : Prop :=
  ∀ (dp un : Nat) (gd : Option (List Code)) (outer : List Env) (A₀ : Around) (base g : Heap) (L : Addr) (h : Heap) (tk : Nat) (gs : Array GenState) (dr : Drawn) (os : OsState) (Q : Flow → Shared → Prop),
    Below A₀ base outer g → (KK w.params).In g → Top p loose mean mg mb g → Fr g L h m₀ → News g L h small → (∀ q ∈ small, q.1 < L) → dp + D < recursionLimit → un + 100 * D < cLine →
    (∀ fl all l h' tk' m', Fr g L h' m' → News g L h' all → (∀ q ∈ l ++ small, q ∈ all) → (∀ q ∈ l, ∀ r ∈ small, r.1 ≠ q.1) → P (fv fl) l → Q fl ⟨h', gs, dr, tk', os⟩) →
    wpAny (model pw w) (ktrTop dp un gd qual scope L f cdv [] outer) (execs body (envX qual scope L f cdv [])) Q (fun _ _ => False) ⟨h, gs, dr, tk, os⟩
section
variable {w : World} {p : Program} {loose : List Str} {mean : ExcName → Option Value} {mg mb : Str → Option Value} {D : Nat} {small : Led} {P : Value → Led → Prop} {vs : List Value} {f : Addr}
  {name qual : Str} {params : Arguments} {body : List Stmt} {scope : Scope} {dV kV doc pm cdv ct oc : Value} {an od : Option Addr} {osl : Array (Option Value)} {binds : List (Str × Value)}
theorem Cq.of_body (ho : (KK w.params).lookup f = some ⟨oc, od, .func (fnOf name qual params body scope dV kV doc pm an cdv ct), osl⟩) (hcd : codeIn (KK w.params) cdv qual = true)
    (hb : bindArgs (fnOf name qual params body scope dV kV doc pm an cdv ct) ⟨vs, []⟩ = pure binds) (hloc : ∀ y ∈ binds, scope.names.lookup y.1 = some .local)
    (hco : scope.isCoroutine = false) (hgen : scope.isGenerator = false) (hk : scope.kind = .function) (hcell : ∀ x ∈ scope.names, x.2 ≠ .cell)
    (C : BodyC w p loose mean mg mb D qual scope f cdv body (fun y => binds.reverse.lookup y) small P) : Cq w p loose mean mg mb (D + 1) f vs small P := by
  intro rest dis dp un gd cn cs a ccd cl outer A₀ base h₀ L m s Q E B F X N T hk' hd hu hr
  refine wpAny_call (code_defR (K := KK w.params) dis B F X N T rfl rfl hk' ho hcd (by show dp < recursionLimit; omega) (.of_eq hb) hloc ?_ hco hgen hk hcell)
  intro g L' h₁ FG F' N' B' X' T' kp lL
  refine wpAny_noRaise (C (dp + 1) (un + 3) gd _ _ base g L' h₁ _ s.gens s.drawn s.os _ B' X' T' F' N' (fun q hq => lL q (List.mem_append_left _ hq)) (by omega) (by omega) ?_)
  intro fl all l h' tk' m' F2 N2 sub hP
  refine leaveK_ F2 N2 fun F0 N0 => ?_
  exact hr _ l hP (kept_apart kp N2 sub) h' tk' F0 (kept_join N kp F2 N0 sub)
theorem Cr.of_body (ho : (KK w.params).lookup f = some ⟨oc, od, .func (fnOf name qual params body scope dV kV doc pm an cdv ct), osl⟩) (hcd : codeIn (KK w.params) cdv qual = true)
    (hb : bindArgs (fnOf name qual params body scope dV kV doc pm an cdv ct) ⟨vs, []⟩ = pure binds) (hloc : ∀ y ∈ binds, scope.names.lookup y.1 = some .local)
    (hco : scope.isCoroutine = false) (hgen : scope.isGenerator = false) (hk : scope.kind = .function) (hcell : ∀ x ∈ scope.names, x.2 ≠ .cell)
    (C : BodyR w p loose mean mg mb D qual scope f cdv body (fun y => binds.reverse.lookup y) small P) : Cr w p loose mean mg mb (D + 1) f vs small P := by
  intro rest dis dp un gd cn cs a ccd cl outer A₀ base h₀ L m s Q E B F X N T hk' hd hu hr
  refine wpAny_call (code_defR (K := KK w.params) dis B F X N T rfl rfl hk' ho hcd (by show dp < recursionLimit; omega) (.of_eq hb) hloc ?_ hco hgen hk hcell)
  intro g L' h₁ FG F' N' B' X' T' kp lL
  refine wpAny_noRaise (C (dp + 1) (un + 3) gd _ _ base g L' h₁ _ s.gens s.drawn s.os _ B' X' T' F' N' (fun q hq => lL q (List.mem_append_left _ hq)) (by omega) (by omega) ?_)
  intro fl all l' h' tk' m' F2 N2 sub ap hP
  refine leaveK_ F2 N2 fun F0 N0 => ?_
  exact hr _ l' hP (apart_app ap (kept_apart kp N2 fun q hq => sub q (List.mem_append_left _ hq))) h' tk' F0 (kept_joinR N kp F2 N0 sub)
end
section
noncomputable def BodyCC (w : World) (p : Program) (loose : List Str) (mean : ExcName → Option Value) (mg mb : Str → Option Value) (D : Nat) (qual : Str) (scope : Scope) (f : Addr) (cdv : Value) (body : List Stmt) (binds : List (Str × Value)) (small : Led) (P : Value → Led → Prop) : Prop :=
  ∀ (dp un : Nat) (gd : Option (List Code)) (outer : List Env) (A₀ : Around) (base g : Heap) (L : Addr) (h : Heap) (tk : Nat) (gs : Array GenState) (dr : Drawn) (os : OsState) (cells : Led) (Q : Flow → Shared → Prop),
    Below A₀ base outer g → (KK w.params).In g → Top p loose mean mg mb g → Fr g L h (bindL (envOfC qual scope L f cdv).kindOf binds fun _ => none) → News g L h (cells ++ small) → CellsAre (bindC (envOfC qual scope L f cdv).kindOf binds fun _ => none) (cellsFrom (L + 1) scope.names []) cells → (∀ q ∈ small, q.1 < L) → dp + D < recursionLimit → un + 100 * D < cLine →
    (∀ fl all l h' tk' m', Fr g L h' m' → News g L h' all → (∀ q ∈ l, q ∈ all) → P (fv fl) l → Q fl ⟨h', gs, dr, tk', os⟩) →
    wpAny (model pw w) (ktrTop dp un gd qual scope L f cdv (cellsFrom (L + 1) scope.names []) outer) (execs body (envX qual scope L f cdv (cellsFrom (L + 1) scope.names []))) Q (fun _ _ => False) ⟨h, gs, dr, tk, os⟩
noncomputable def BodyRC (w : World) (p : Program) (loose : List Str) (mean : ExcName → Option Value) (mg mb : Str → Option Value) (D : Nat) (qual : Str) (scope : Scope) (f : Addr) (cdv : Value) (body : List Stmt) (binds : List (Str × Value)) (small : Led) (P : Value → Led → Prop) : Prop :=
  ∀ (dp un : Nat) (gd : Option (List Code)) (outer : List Env) (A₀ : Around) (base g : Heap) (L : Addr) (h : Heap) (tk : Nat) (gs : Array GenState) (dr : Drawn) (os : OsState) (cells : Led) (Q : Flow → Shared → Prop),
    Below A₀ base outer g → (KK w.params).In g → Top p loose mean mg mb g → Fr g L h (bindL (envOfC qual scope L f cdv).kindOf binds fun _ => none) → News g L h (cells ++ small) → CellsAre (bindC (envOfC qual scope L f cdv).kindOf binds fun _ => none) (cellsFrom (L + 1) scope.names []) cells → (∀ q ∈ small, q.1 < L) → dp + D < recursionLimit → un + 100 * D < cLine →
    (∀ fl all l h' tk' m', Fr g L h' m' → News g L h' all → (∀ q ∈ l ++ small, q ∈ all) → (∀ q ∈ l, ∀ r ∈ small, r.1 ≠ q.1) → P (fv fl) l → Q fl ⟨h', gs, dr, tk', os⟩) →
    wpAny (model pw w) (ktrTop dp un gd qual scope L f cdv (cellsFrom (L + 1) scope.names []) outer) (execs body (envX qual scope L f cdv (cellsFrom (L + 1) scope.names []))) Q (fun _ _ => False) ⟨h, gs, dr, tk, os⟩
variable {w : World} {p : Program} {loose : List Str} {mean : ExcName → Option Value} {mg mb : Str → Option Value} {D : Nat} {small : Led} {P : Value → Led → Prop} {vs : List Value} {f : Addr}
  {name qual : Str} {params : Arguments} {body : List Stmt} {scope : Scope} {dV kV doc pm cdv ct oc : Value} {an od : Option Addr} {osl : Array (Option Value)} {binds : List (Str × Value)}
theorem Cq.of_bodyC (ho : (KK w.params).lookup f = some ⟨oc, od, .func (fnOf name qual params body scope dV kV doc pm an cdv ct), osl⟩) (hcd : codeIn (KK w.params) cdv qual = true)
    (hb : bindArgs (fnOf name qual params body scope dV kV doc pm an cdv ct) ⟨vs, []⟩ = pure binds) (hkind : (binds.all fun y => scope.names.lookup y.1 == some .local || scope.names.lookup y.1 == some .cell) = true)
    (hnd : ((cellsFrom 0 scope.names []).map (·.1)).Nodup) (hco : scope.isCoroutine = false) (hgen : scope.isGenerator = false) (hk : scope.kind = .function)
    (C : BodyCC w p loose mean mg mb D qual scope f cdv body binds small P) : Cq w p loose mean mg mb (D + 1) f vs small P := by
  intro rest dis dp un gd cn cs a ccd cl outer A₀ base h₀ L m s Q E B F X N T hk' hd hu hr
  refine wpAny_call (code_defCR (K := KK w.params) dis B F X N T rfl rfl hk' ho hcd (by show dp < recursionLimit; omega) (.of_eq hb) hkind hnd ?_ hco hgen hk)
  intro g L' h₁ tk cells FG F' N' Y B' X' T' kp lL
  refine wpAny_noRaise (C (dp + 1) (un + 3) gd _ _ base g L' h₁ _ s.gens s.drawn s.os cells _ B' X' T' F' N' Y (fun q hq => lL q (List.mem_append_left _ hq)) (by omega) (by omega) ?_)
  intro fl all l h' tk' m' F2 N2 sub hP
  refine leaveK_ F2 N2 fun F0 N0 => ?_
  exact hr _ l hP (kept_apart kp N2 sub) h' tk' F0 (kept_join N kp F2 N0 sub)
theorem Cr.of_bodyC (ho : (KK w.params).lookup f = some ⟨oc, od, .func (fnOf name qual params body scope dV kV doc pm an cdv ct), osl⟩) (hcd : codeIn (KK w.params) cdv qual = true)
    (hb : bindArgs (fnOf name qual params body scope dV kV doc pm an cdv ct) ⟨vs, []⟩ = pure binds) (hkind : (binds.all fun y => scope.names.lookup y.1 == some .local || scope.names.lookup y.1 == some .cell) = true)
    (hnd : ((cellsFrom 0 scope.names []).map (·.1)).Nodup) (hco : scope.isCoroutine = false) (hgen : scope.isGenerator = false) (hk : scope.kind = .function)
    (C : BodyRC w p loose mean mg mb D qual scope f cdv body binds small P) : Cr w p loose mean mg mb (D + 1) f vs small P := by
  intro rest dis dp un gd cn cs a ccd cl outer A₀ base h₀ L m s Q E B F X N T hk' hd hu hr
  refine wpAny_call (code_defCR (K := KK w.params) dis B F X N T rfl rfl hk' ho hcd (by show dp < recursionLimit; omega) (.of_eq hb) hkind hnd ?_ hco hgen hk)
  intro g L' h₁ tk cells FG F' N' Y B' X' T' kp lL
  refine wpAny_noRaise (C (dp + 1) (un + 3) gd _ _ base g L' h₁ _ s.gens s.drawn s.os cells _ B' X' T' F' N' Y (fun q hq => lL q (List.mem_append_left _ hq)) (by omega) (by omega) ?_)
  intro fl all l' h' tk' m' F2 N2 sub ap hP
  refine leaveK_ F2 N2 fun F0 N0 => ?_
  exact hr _ l' hP (apart_app ap (kept_apart kp N2 fun q hq => sub q (List.mem_append_left _ hq))) h' tk' F0 (kept_joinR N kp F2 N0 sub)
end
theorem Cr.use1 {D : Nat} {f : Addr} {vs : List Value} {q : Addr} {o : Obj} {P : Value → Led → Prop} {w : World} {p : Program} {loose : List Str} {mean : ExcName → Option Value} {mg mb : Str → Option Value} {news : Led} {dp un : Nat} {gd : Option (List Code)} {cn : Str} {cs : Scope} {a : Addr} {ccd : Value} {cl : List (Str × Addr)} {outer : List Env} {A₀ : Around} {base h₀ : Heap} {L : Addr} {m : Str → Option Value} {s : Shared} {Q E : Value → Shared → Prop}
    (C : Cr w p loose mean mg mb D f vs [(q, o)] P) (hm : (q, o) ∈ news) (B : Below A₀ base outer h₀) (F : Fr h₀ L s.heap m) (X : (KK w.params).In h₀) (N : News h₀ L s.heap news) (T : Top p loose mean mg mb h₀) (hk : cs.kind = .function) (hd : dp + D < recursionLimit) (hu : un + 100 * D < cLine)
    (r : ∀ v l, P v l → Apart l news → ∀ h' tk', Fr h₀ L h' m → News h₀ L h' (l ++ news) → Q v { s with heap := h', toks := tk' }) :
    wpAny (model pw w) (ktrTop dp un gd cn cs L a ccd cl outer) (call (.ref f) vs) Q E s := Cr.use C (List.forall_mem_cons.mpr ⟨hm, List.forall_mem_nil _⟩) B F X N T hk hd hu r
end
section
noncomputable def ModB (w : World) (mo md ss : Addr) (oss : Obj) (L : Led) : Prop :=
  ∃ t0 t1 kp, L = [(mo, instObj 198 md), (md, dictOf [en w "states" t0 (.ref ss), en w "kept" t1 kp] 2), (ss, oss)]
theorem kw_WMod_0 : True := by
  k_with "z10" => skip
  k_with "my kfold" => ((fail_if_success k_extra "z13"); skip)
  k_with "my e0" => ((fail_if_success k_extra "z13"); ((refine' code_defR (apart2 dis l1 l2) ?k1_14 ?k2_14 ?k3_14 ?k4_14 ?k5_14 ?kA_14 ?kF_14 ?kK_14 ?k6_14 ?k7_14 ?k8_14 ?k9_14 ?kB_14 ?_ ?c2_14 ?c3_14 ?c4_14 ?c5_14; (case kA_14 => exact rfl); (case kF_14 => exact rfl); (case kK_14 => first | assumption | exact rfl); (case k1_14 => k_asm); (case k2_14 => k_asm); (case k3_14 => k_asm); (case k4_14 => exact N'); (case k5_14 => k_asm); (case k6_14 => k_is); (case k7_14 => k_is); (case k8_14 => k_room); (case k9_14 => first | exact BindsTo.of_eq rfl | exact binds_K (by k_in) rfl (by k_is) rfl rfl rfl); (case c5_14 => decide); (case kB_14 => exact locs rfl); (case c2_14 => exact rfl); (case c3_14 => exact rfl); (case c4_14 => exact rfl); k_whole; intro g' L' h' FG' F' N' B' X' T' kp lL; have lLs := lt_small lL; (try k_lt lLs); (try dsimp only); (try k_lift B'))))
  k_with "my kf" => ((fail_if_success k_extra "z13"); (k_extra "my kclose"))
  trivial
theorem tup_K {K : Frag} {h : Heap} {t : Addr} {o : Obj} {items : Array Value} {n : Nat} (X : K.In h) (hk : K.lookup t = some o) (hc : o.cls = .type "tuple") (hd : o.data = .seq items n) : IsTup h t items := ⟨o, X _ _ hk, hc, n, hd⟩
section
variable {prog : Program} {w : World} {A : Around} {E : Value → Shared → Prop} {s : Shared} {env : Env} {h₀ : Heap} {x : Str} {body : List Stmt} {Q : Flow → Shared → Prop}
noncomputable def TupRest (prog : Program) (w : World) (A : Around) (E : Value → Shared → Prop) (h₀ : Heap) (env : Env) (x : Str) (body : List Stmt) (Q : Flow → Shared → Prop) (s : Shared) (I : Addr) : List Value → (Str → Option Value) → Led → Prop
  | [], m, news => ∀ h tk, Fr h₀ env.locals h m → News h₀ env.locals h news → Q .next { s with heap := h, toks := tk }
  | v :: r, m, news => ∀ (it : Obj) h tk, Fr h₀ env.locals h (fun y => if y = x then some v else m y) → News h₀ env.locals h ((I, it) :: news) →
      wpAny (model prog w) A (execs body env) (UnrPost h₀ env.locals { s with heap := h, toks := tk } I it (TupRest prog w A E h₀ env x body Q s I r) Q) E { s with heap := h, toks := tk }
theorem TupRest.zero {I : Addr} {m : Str → Option Value} {news : Led} (h : ∀ h tk, Fr h₀ env.locals h m → News h₀ env.locals h news → Q .next { s with heap := h, toks := tk }) : TupRest prog w A E h₀ env x body Q s I [] m news := h
theorem TupRest.succ {I : Addr} {v : Value} {r : List Value} {m : Str → Option Value} {news : Led}
    (h : ∀ (it : Obj) h tk, Fr h₀ env.locals h (fun y => if y = x then some v else m y) → News h₀ env.locals h ((I, it) :: news) →
      wpAny (model prog w) A (execs body env) (UnrPost h₀ env.locals { s with heap := h, toks := tk } I it (TupRest prog w A E h₀ env x body Q s I r) Q) E { s with heap := h, toks := tk }) : TupRest prog w A E h₀ env x body Q s I (v :: r) m news := h
theorem iter_tupK {K : Frag} {t : Addr} {o : Obj} {vs : List Value} {n : Nat} {m₀ : Str → Option Value} {news : Led}
    (hh : A.handled = none) (X : K.In h₀) (hk : K.lookup t = some o) (hc : o.cls = .type "tuple") (hd : o.data = .seq vs.toArray n) (F : Fr h₀ env.locals s.heap m₀) (N : News h₀ env.locals s.heap news)
    (rest₀ : ∀ I : Addr, (∀ p ∈ news, p.1 < I) → TupRest prog w A E h₀ env x body Q s I vs m₀ news) :
    wpAny (model prog w) A (pyIter (.ref t)) (fun it s₂ => LoopAtV prog w A h₀ env x body Q E it s₂) E s := by
  have ht : s.heap.IsTuple t vs.toArray := tup_K (X.keeps F.keep) hk hc hd
  have htL : t ≠ env.locals := Fr.old_ne F (tup_K X hk hc hd)
  have hold : h₀.get? t = some o := X _ _ hk
  have hlt : t < s.heap.objs.size := Heap.lt_size (F.keep _ _ hold)
  have hne : t ≠ s.heap.objs.size := Nat.ne_of_lt hlt
  refine wpAny_pyIter_tuple ht ?_
  have rest := rest₀ s.heap.objs.size fun p hp => Heap.lt_size (N p hp).1
  have W := Walks.tuple (prog := prog) (w := w) hh s.heap.objs.size t hne vs.toArray
  have hnew := next_is_new F
  have hlen : vs.toArray.size = vs.length := by simp
  rw [hlen] at W
  let J : Nat → (Str → Option Value) → Led → Prop := fun i m₁ news₁ => TupRest prog w A E h₀ env x body Q s s.heap.objs.size (vs.drop i) m₁ news₁
  refine ⟨_, _, _, vs.length, _, _, m₀, news, J, rfl, W, ?_, ?_, ?_, ⟨⟨_, Heap.get?_push_size _ rfl, rfl, rfl⟩, ht.at fun o e => Heap.get?_push_of_some _ e⟩, F.push _, (fun p hp => ⟨Heap.get?_push_of_some _ (N p hp).1, (N p hp).2⟩), (by show TupRest _ _ _ _ _ _ _ _ _ _ _ (vs.drop 0) _ _; rw [List.drop_zero]; exact rest), ?_, ?_⟩
  · intro hmm
    rcases List.mem_cons.mp hmm with e | hmm
    · exact absurd F.ns.lt (e ▸ Nat.lt_irrefl _)
    · exact htL (List.mem_singleton.mp hmm).symm
  · intro b hb
    rw [List.mem_singleton.mp hb]
    exact hnew
  · intro p hp hI
    exact absurd (Heap.lt_size (N p hp).1) ((List.mem_singleton.mp hI) ▸ Nat.lt_irrefl _)
  · rintro i v m₁ news₁ s₁ own ⟨hh', tk', rfl⟩ hin hP hJ hoff hown hget hall hst F₁ N₁
    obtain ⟨it, hit, hic, hid⟩ := hst.1
    have hmemI := hall s.heap.objs.size (List.mem_cons_self ..) hnew _ hit
    have hdrop : vs.drop i = v :: vs.drop (i + 1) := by
      have hlt' : i < vs.length := hin
      have hv : vs[i]? = some v := by simpa using hP
      rw [List.drop_eq_getElem_cons hlt']
      congr 1
      exact Option.some.inj ((List.getElem?_eq_getElem hlt').symm.trans hv)
    have hJ' : TupRest prog w A E h₀ env x body Q s s.heap.objs.size (v :: vs.drop (i + 1)) m₁ news₁ := hdrop ▸ hJ
    have N₂ : News h₀ env.locals hh' ((s.heap.objs.size, it) :: news₁) := fun p hp => by
      rcases List.mem_cons.mp hp with rfl | hp
      · exact N₁ _ (List.mem_append_left _ hmemI)
      · exact N₁ _ (List.mem_append_right _ hp)
    refine wpAny_mono (hJ' it hh' tk' F₁ N₂) (fun f s₂ p => ?_) fun _ _ e => e
    have fin : UnrEnd h₀ env.locals { s with heap := hh', toks := tk' } s.heap.objs.size it (TupRest prog w A E h₀ env x body Q s s.heap.objs.size (vs.drop (i + 1))) s₂ →
        LoopStepU h₀ env.locals [s.heap.objs.size] own (J (i + 1)) { s with heap := hh', toks := tk' } .next s₂ := by
      rintro ⟨h', tk, m', news', e, F', N', ho, r⟩
      refine ⟨rfl, h', tk, m', news', e, F', fun p hp => ?_, fun p hp hI => ho p hp (List.mem_singleton.mp hI), r⟩
      rcases List.mem_append.mp hp with hp | hp
      · have h2 : hh'.get? p.1 = some p.2 := hget p hp
        rcases List.mem_cons.mp (hown p hp) with h1 | h1
        · have h3 : p = (s.heap.objs.size, it) := by
            rw [h1, hit] at h2
            exact Prod.ext h1 (Option.some.inj h2).symm
          rw [h3]; exact N' _ (List.mem_cons_self ..)
        · have h1' : p.1 = t := List.mem_singleton.mp h1
          have h4 := (N₁ _ (List.mem_append_left _ hp)).2.2
          rw [h1', hold] at h4
          cases h4
      · exact N' _ (List.mem_cons_of_mem _ hp)
    cases f with
    | ret v => exact .ret p
    | brk => exact .brk p
    | next => exact .next (fin p)
    | cont => exact .cont (fin p)
  · rintro h' tk m' news' F' N' _ hJ
    have z : vs.drop vs.length = [] := List.drop_length
    have hJ' : TupRest prog w A E h₀ env x body Q s s.heap.objs.size [] m' news' := z ▸ hJ
    exact hJ' h' tk F' N'
end
noncomputable def modes0 : List (Str × Value) := [(Str.ofString "send_receive", .bool true), (Str.ofString "autowrap", .bool true), (Str.ofString "autorepeat", .bool true), (Str.ofString "show_cursor", .bool true), (Str.ofString "num_lock", .bool true)]
theorem kw_WMod_1 : True := by
  k_with "my UnrEnd" => ((fail_if_success k_extra "z13"); ((k_here; first | (refine unr_end_head (by assumption) (by assumption) (by k_all) ?_) | (refine unr_end_head (by assumption) (News.tl (by assumption)) (by k_all) ?_) | (refine unr_end_head (by assumption) (News.tl (News.tl (by assumption))) (by k_all) ?_) | (refine unr_end_head (by assumption) (News.tl (News.tl (News.tl (by assumption)))) (by k_all) ?_))))
  k_with "my exec For Name Name cons nil" => ((fail_if_success k_extra "z13"); ((k_here; (rename Fr _ _ _ _ => lF'); (with_unfolding_all refine' For_invVF lF' ?k1_17 ?k2_17 ?_; (case k1_17 => exact rfl); (case k2_17 => exact rfl); k_whole))))
  k_with "my pyIter ref" => ((fail_if_success k_extra "z13"); ((k_here; (with_reducible show wpAny _ _ (pyIter (Value.ref _)) (fun it s₂ => LoopAtV _ _ _ _ _ _ _ _ _ it s₂) _ _); (rename Fr _ _ _ _ => lF'); (rename News _ _ _ _ => lN'); (with_unfolding_all refine iter_tupK (by rfl) (by assumption) (by k_is) (by rfl) (by rfl) lF' lN' ?_); clear lF' lN'; intro i' l1; (try k_lt l1))))
  k_with "my TupRest" => ((fail_if_success k_extra "z13"); ((with_unfolding_all first | (refine TupRest.succ (fun it' h' tk' F' N' => ?_)) | (refine TupRest.zero (fun h' tk' F' N' => ?_)))))
  trivial
theorem nil_sub (r : Led) : ∀ q ∈ [] ++ r, q ∈ r := fun _ h => h
theorem nil_apart (r : Led) : Apart [] r := fun _ _ _ h => nomatch h
set_option maxHeartbeats 8000000 in
theorem modes_new (w : World) (p : Program) (loose : List Str) (mean : ExcName → Option Value) (mg mb : Str → Option Value) (rest : Led) :
    Cl w p loose mean mg mb 8 198 [] ([] ++ rest) (fun K => ∀ mo md ss oss t0 t1 kp, (∀ p ∈ [] ++ rest, p.1 < md) → @LT.lt Nat _ md mo → @LT.lt Nat _ mo ss → oss.IsDictOf (strKind pw w) modes0 → K (.ref mo) ([(mo, instObj 198 md), (md, dictOf [en w "states" t0 (.ref ss), en w "kept" t1 kp] 2), (ss, oss)] ++ rest)) := _root_.id <| by
  have dis := nil_apart rest
  intro dp un gd cn cs a ccd cl outer A₀ base h₀ L m s Q E B F X N Tp hk hd hu hr
  revert dis B F X N Tp hk hd hu hr
  revert w p loose mean mg mb rest dp un gd cn cs a ccd cl outer A₀ base h₀ L m s Q E
  k_extra "my d14"; intros w p loose mean mg mb rest dp un gd cn cs a ccd; k_extra "my of"
  k_extra "my d8"; intros cl outer A₀ base h₀ L m s; k_extra "my of"
  k_extra "my d2"; intros Q E; k_extra "my of"
  intros dis B F X N Tp hk hd hu hr
  haveI mk : Mark := Mark.mk
  k_dflt (refine' call_cls ?k1 ?k2 ?k3 ?k4 ?k5 ?k6 ?_; (case k1 => k_asm); (case k2 => k_asm); (case k3 => k_asm); (case k4 => k_is); (case k5 => k_is); (case k6 => k_is); k_whole; intro x' d' h' F' N' l1 l2)
  replace N' := News.cons2 N'
  have l1s := lt_small l1
  k_lt l1s
  k_lt2 l2
  k_dflt k_extra "my e0"
  k_extra "my kclose"
  k_extra "my ks2"
  refine' hr _ _ _ _ _ _ _ ?o ?a ?b ?c _ _ ?ff ?nn
  case ff => assumption
  case nn =>
    refine kept_join (by assumption) (by assumption) (by assumption) (by assumption) ?_
    kcf_all
  all_goals first | assumption | omega
set_option maxHeartbeats 8000000 in
theorem wcr_new (w : World) (p : Program) (loose : List Str) (mean : ExcName → Option Value) (mg mb : Str → Option Value) (q : Addr) (k : Nat) :
    Cr w p loose mean mg mb 2 220 [.ref q] [(q, W.listOf #[] k)] (fun v l => l = []) := _root_.id <| by
  intro rest dis dp un gd cn cs a ccd cl outer A₀ base h₀ L m s Q E B F X N Tp hk hd hu hr
  revert dis B F X N Tp hk hd hu hr
  revert w p loose mean mg mb q k rest dp un gd cn cs a ccd cl outer A₀ base h₀ L m s Q E
  k_extra "my d14"; intros w p loose mean mg mb q k rest dp un gd cn cs; k_extra "my of"
  k_extra "my d8"; intros a ccd cl outer A₀ base h₀ L; k_extra "my of"
  k_extra "my d4"; intros m s Q E; k_extra "my of"
  intros dis B F X N Tp hk hd hu hr
  haveI mk : Mark := Mark.mk
  refine wpAny_call ?_
  k_dflt (refine' code_defR dis ?k1 ?k2 ?k3 ?k4 ?k5 ?kA ?kF ?kK ?k6 ?k7 ?k8 ?k9 ?kB ?_ ?c2 ?c3 ?c4 ?c5; (case kA => exact rfl); (case kF => exact rfl); (case kK => first | assumption | exact rfl); (case k1 => k_asm); (case k2 => k_asm); (case k3 => k_asm); (case k4 => k_asm); (case k5 => k_asm); (case k6 => k_is); (case k7 => k_is); (case k8 => k_room); (case k9 => first | exact BindsTo.of_eq rfl | exact binds_K (by k_in) rfl (by k_is) rfl rfl rfl); (case c5 => decide); (case kB => exact locs rfl); (case c2 => exact rfl); (case c3 => exact rfl); (case c4 => exact rfl); k_whole; intro g' L' h' FG' F' N' B' X' T' kp lL; have lLs := lt_small lL; (try k_lt lLs); (try dsimp only); (try k_lift B'))
  k_extra "my kclose"
  k_extra "my ks2"
  refine' hr _ _ rfl ?ap _ _ ?ff ?nn
  case ff => assumption
  case nn =>
    refine kept_joinR (by assumption) (by assumption) (by assumption) (by assumption) ?_
    try simp only [List.cons_append, List.nil_append]
    kcf_all
  case ap =>
    refine apart_app ?_ (kept_apart (by assumption) (by assumption) ?_)
    · repeat' (first | exact List.forall_mem_nil _ | (refine List.forall_mem_cons.mpr ⟨?_, ?_⟩))
      all_goals k_ne
    · try simp only [List.cons_append, List.nil_append]
      kcf_all
  all_goals first | assumption | omega
theorem kw_WMod_2 : True := by
  k_with "my call ref" => ((fail_if_success k_extra "z13"); ((k_here; (with_reducible show wpAny _ _ (call (Value.ref 220) _) _ _ _); k_dflt (refine' Cr.use (wcr_new _ _ _ _ _ _ _ _) ?hs_20 ?B_20 ?F_20 ?X_20 ?N_20 ?T_20 ?hk_20 ?hd_20 ?hu_20 ?_; (case B_20 => assumption); (case F_20 => k_asm); (case X_20 => assumption); (case N_20 => k_asm); (case T_20 => assumption); (case hk_20 => rfl); (case hd_20 => ktr_room); (case hu_20 => ktr_units); (case hs_20 => kcf_all)); intro v' l' e' ap' h' tk' F' N'; subst e'; simp only [List.nil_append] at N')))
  trivial
set_option maxHeartbeats 8000000 in
theorem widths_new (w : World) (p : Program) (loose : List Str) (mean : ExcName → Option Value) (mg mb : Str → Option Value) (q1 q2 q3 : Addr) (k1 k2 k3 : Nat) :
    Cr w p loose mean mg mb 8 251 [.ref q1, .ref q2, .ref q3] [(q1, W.listOf #[] k1), (q2, W.listOf #[] k2), (q3, W.listOf #[] k3)] (fun v l => (∃ g, v = .ref g) ∧ l = []) := _root_.id <| by
  intro rest dis dp un gd cn cs a ccd cl outer A₀ base h₀ L m s Q E B F X N Tp hk hd hu hr
  revert dis B F X N Tp hk hd hu hr
  revert w p loose mean mg mb q1 q2 q3 k1 k2 k3 rest dp un gd cn cs a ccd cl outer A₀ base h₀ L m s Q E
  k_extra "my d14"; intros w p loose mean mg mb q1 q2 q3 k1 k2 k3 rest dp; k_extra "my of"
  k_extra "my d14"; intros un gd cn cs a ccd cl outer A₀ base h₀ L m s; k_extra "my of"
  k_extra "my d2"; intros Q E; k_extra "my of"
  intros dis B F X N Tp hk hd hu hr
  haveI mk : Mark := Mark.mk
  k_dflt (refine' call_cls ?k1 ?k2 ?k3 ?k4 ?k5 ?k6 ?_; (case k1 => k_asm); (case k2 => k_asm); (case k3 => k_asm); (case k4 => k_is); (case k5 => k_is); (case k6 => k_is); k_whole; intro x' d' h' F' N' l1 l2)
  replace N' := News.cons2 N'
  have l1s := lt_small l1
  k_lt l1s
  k_lt2 l2
  k_dflt k_extra "my e0"
  k_extra "my kclose"
  k_extra "my ks2"
  refine' hr _ _ ⟨⟨_, rfl⟩, rfl⟩ ?ap _ _ ?ff ?nn
  case ff => assumption
  case nn =>
    refine kept_joinR (by assumption) (by assumption) (by assumption) (by assumption) ?_
    try simp only [List.cons_append, List.nil_append]
    kcf_all
  case ap =>
    refine apart_app ?_ (kept_apart (by assumption) (by assumption) ?_)
    · repeat' (first | exact List.forall_mem_nil _ | (refine List.forall_mem_cons.mpr ⟨?_, ?_⟩))
      all_goals k_ne
    · try simp only [List.cons_append, List.nil_append]
      kcf_all
  all_goals first | assumption | omega
end
section
noncomputable def ClC (w : World) (p : Program) (loose : List Str) (mean : ExcName → Option Value) (mg mb : Str → Option Value) (D : Nat) (f : Addr) (vs : List Value) (news : Led) (R : (Value → Led → Prop) → Prop) : Prop :=
  ∀ (dp un : Nat) (gd : Option (List Code)) (cn : Str) (cs : Scope) (a : Addr) (ccd : Value) (cl : List (Str × Addr)) (outer : List Env) (A₀ : Around) (base h₀ : Heap) (L : Addr) (m : Str → Option Value) (s : Shared) (Q E : Value → Shared → Prop),
    Below A₀ base outer h₀ → Fr h₀ L s.heap m → (KK w.params).In h₀ → News h₀ L s.heap news → Top p loose mean mg mb h₀ → cs.kind = .function → dp + D < recursionLimit → un + 100 * D < cLine →
    R (fun v news' => ∀ h' tk', Fr h₀ L h' m → News h₀ L h' news' → Q v { s with heap := h', toks := tk' }) →
    codeAny (model pw w) (ktrTop dp un gd cn cs L a ccd cl outer) (.call (.ref f) ⟨vs, []⟩) (fun r s' => match r with | .ok (.ret v) => Q v s' | .ok _ => False | .error e => E e s') s
noncomputable def CqM (w : World) (p : Program) (loose : List Str) (mean : ExcName → Option Value) (mg mb : Str → Option Value) (D : Nat) (f : Addr) (vs : List Value) (small : Led) (P : Value → Led → Prop) : Prop :=
  ∀ rest, Apart small rest → ClC w p loose mean mg mb D f vs (small ++ rest) (fun K => ∀ v l, P v l → Apart l rest → K v (l ++ rest))
theorem kw_WMeth_0 : True := by
  k_with "z13" => skip
  k_with "my kfold" => ((fail_if_success k_extra "z14"); skip)
  k_with "my e0" => ((fail_if_success k_extra "z14"); ((refine' code_defR dis ?k1_21 ?k2_21 ?k3_21 ?k4_21 ?k5_21 ?kA_21 ?kF_21 ?kK_21 ?k6_21 ?k7_21 ?k8_21 ?k9_21 ?kB_21 ?_ ?c2_21 ?c3_21 ?c4_21 ?c5_21; (case kA_21 => exact rfl); (case kF_21 => exact rfl); (case kK_21 => first | assumption | exact rfl); (case k1_21 => k_asm); (case k2_21 => k_asm); (case k3_21 => k_asm); (case k4_21 => k_asm); (case k5_21 => k_asm); (case k6_21 => k_is); (case k7_21 => k_is); (case k8_21 => k_room); (case k9_21 => first | exact BindsTo.of_eq rfl | exact binds_K (by k_in) rfl (by k_is) rfl rfl rfl); (case c5_21 => decide); (case kB_21 => exact locs rfl); (case c2_21 => exact rfl); (case c3_21 => exact rfl); (case c4_21 => exact rfl); k_whole; intro g' L' h' FG' F' N' B' X' T' kp lL; have lLs := lt_small lL; (try k_lt lLs); (try dsimp only); (try k_lift B'))))
  k_with "my kf" => ((fail_if_success k_extra "z14"); (k_extra "my kclose"))
  trivial
theorem CqM.use {w : World} {p : Program} {loose : List Str} {mean : ExcName → Option Value} {mg mb : Str → Option Value} {D : Nat} {f q : Addr} {v : Value} {vs : List Value} {small news : Led} (rest : Led) {P : Value → Led → Prop} {dp un : Nat} {gd : Option (List Code)} {cn : Str} {cs : Scope} {a : Addr} {ccd : Value} {cl : List (Str × Addr)} {outer : List Env} {A₀ : Around} {base h₀ : Heap} {L : Addr} {m : Str → Option Value} {s : Shared} {Q E : Value → Shared → Prop}
    (C : CqM w p loose mean mg mb D f (v :: vs) small P) (hq : (q, methodObj (.ref f) v) ∈ news) (dis : Apart small rest) (hs : ∀ q ∈ small ++ rest, q ∈ news) (B : Below A₀ base outer h₀) (F : Fr h₀ L s.heap m) (X : (KK w.params).In h₀) (N : News h₀ L s.heap news) (T : Top p loose mean mg mb h₀) (hk : cs.kind = .function) (hd : dp + D < recursionLimit) (hu : un + 100 * D < cLine)
    (r : ∀ v l, P v l → Apart l rest → ∀ h' tk', Fr h₀ L h' m → News h₀ L h' (l ++ rest) → Q v { s with heap := h', toks := tk' }) :
    wpAny (model pw w) (ktrTop dp un gd cn cs L a ccd cl outer) (call (.ref q) vs) Q E s := call_meth N hq (C rest dis _ _ _ _ _ _ _ _ _ _ _ _ _ _ _ _ _ B F X (News.sub N hs) T hk hd hu r)
theorem CqM.call {w : World} {p : Program} {loose : List Str} {mean : ExcName → Option Value} {mg mb : Str → Option Value} {D : Nat} {f : Addr} {vs : List Value} {small news : Led} (rest : Led) {P : Value → Led → Prop} {dp un : Nat} {gd : Option (List Code)} {cn : Str} {cs : Scope} {a : Addr} {ccd : Value} {cl : List (Str × Addr)} {outer : List Env} {A₀ : Around} {base h₀ : Heap} {L : Addr} {m : Str → Option Value} {s : Shared} {Q E : Value → Shared → Prop}
    (C : CqM w p loose mean mg mb D f vs small P) (dis : Apart small rest) (hs : ∀ q ∈ small ++ rest, q ∈ news) (B : Below A₀ base outer h₀) (F : Fr h₀ L s.heap m) (X : (KK w.params).In h₀) (N : News h₀ L s.heap news) (T : Top p loose mean mg mb h₀) (hk : cs.kind = .function) (hd : dp + D < recursionLimit) (hu : un + 100 * D < cLine)
    (r : ∀ v l, P v l → Apart l rest → ∀ h' tk', Fr h₀ L h' m → News h₀ L h' (l ++ rest) → Q v { s with heap := h', toks := tk' }) :
    wpAny (model pw w) (ktrTop dp un gd cn cs L a ccd cl outer) (PySem.call (.ref f) vs) Q E s := wpAny_call (C rest dis _ _ _ _ _ _ _ _ _ _ _ _ _ _ _ _ _ B F X (News.sub N hs) T hk hd hu r)
theorem stored_origin {b : Value} : stored modes0 (Str.ofString "origin") b = modes0 ++ [(Str.ofString "origin", b)] := by rfl
theorem stored_origin2 {b c : Value} : stored (modes0 ++ [(Str.ofString "origin", c)]) (Str.ofString "origin") b = modes0 ++ [(Str.ofString "origin", b)] := by rfl
section
variable {prog : Program} {w : World} {A : Around} {E : Value → Shared → Prop} {s : Shared} {h₀ : Heap} {L : Addr} {m : Str → Option Value} {K : Frag} {t : Addr} {o : Obj} {items : Array Value} {n : Nat} {Q : Value → Shared → Prop} {tk : Tok}
noncomputable def strEq (k : Str) : Value → Bool | .str a _ => a == k | _ => false
noncomputable def bytEq (k : Array UInt8) : Value → Bool | .bytes a _ => decide (a.toList = k.toList) | _ => false
noncomputable def isStr : Value → Bool | .str _ _ => true | _ => false
noncomputable def isByt : Value → Bool | .bytes _ _ => true | _ => false
theorem EqAt.bytes {A : Around} {s : Shared} {b c : Array UInt8} {t u : Tok} : SeqAt.EqAt A s (.bytes b t) (.bytes c u) (decide (b.toList = c.toList)) := fun prog w E Q h => eqBool_bytes h
theorem in_strK {k : Str} {r : Bool} (F : Fr h₀ L s.heap m) (X : K.In h₀) (hk : K.lookup t = some o) (hc : o.cls = .type "tuple") (hd : o.data = .seq items n) (hs : items.all isStr = true) (hr : items.any (strEq k) = r) (h : Q (.bool r) s) : wpAny (model prog w) A (compareOp .In (.str k tk) (.ref t)) Q E s := by
  subst hr
  refine SeqAt.in_tupleAt (strEq k) (tup_K (X.keeps F.keep) hk hc hd) (fun y hy => ?_) h
  have hy := Array.all_eq_true'.mp hs y hy
  cases y <;> try (simp [isStr] at hy; done)
  exact SeqAt.EqAt.str_str _ _ _ _
theorem notin_bytK {k : Array UInt8} {r : Bool} (F : Fr h₀ L s.heap m) (X : K.In h₀) (hk : K.lookup t = some o) (hc : o.cls = .type "tuple") (hd : o.data = .seq items n) (hs : items.all isByt = true) (hr : items.any (bytEq k) = r) (h : Q (.bool (!r)) s) : wpAny (model prog w) A (compareOp .NotIn (.bytes k tk) (.ref t)) Q E s := by
  subst hr
  refine SeqAt.notIn_tupleAt (bytEq k) (tup_K (X.keeps F.keep) hk hc hd) (fun y hy => ?_) h
  have hy := Array.all_eq_true'.mp hs y hy
  cases y <;> try (simp [isByt] at hy; done)
  exact EqAt.bytes
end
noncomputable def modeL (o : Option Bool) : List (Str × Value) := match o with | none => modes0 | some b => modes0 ++ [(Str.ofString "origin", .bool b)]
theorem kw_WMeth_1 : True := by
  k_with "my compareOp In str ref" => ((fail_if_success k_extra "z14"); ((k_here; (with_unfolding_all refine in_strK (r := false) (by assumption) (by assumption) (by k_is) (by rfl) (by rfl) (by decide +kernel) (by decide +kernel) ?_))))
  k_with "my UnrEnd" => ((fail_if_success k_extra "z14"); ((k_here; first | (refine unr_end_head (by assumption) (by assumption) (by k_all) ?_) | (refine unr_end_head (by assumption) (News.tl (by assumption)) (by k_all) ?_) | (refine unr_end_head (by assumption) (News.tl (News.tl (by assumption))) (by k_all) ?_) | (refine unr_end_head (by assumption) (News.tl (News.tl (News.tl (by assumption)))) (by k_all) ?_))))
  k_with "my exec For Name Name cons nil" => ((fail_if_success k_extra "z14"); ((k_here; (rename Fr _ _ _ _ => lF'); (with_unfolding_all refine' For_invVF lF' ?k1_25 ?k2_25 ?_; (case k1_25 => exact rfl); (case k2_25 => exact rfl); k_whole))))
  k_with "my pyIter ref" => ((fail_if_success k_extra "z14"); ((k_here; (with_reducible show wpAny _ _ (pyIter (Value.ref _)) (fun it s₂ => LoopAtV _ _ _ _ _ _ _ _ _ it s₂) _ _); (rename Fr _ _ _ _ => lF'); (rename News _ _ _ _ => lN'); (with_unfolding_all refine iter_tupK (by rfl) (by assumption) (by k_is) (by rfl) (by rfl) lF' lN' ?_); clear lF' lN'; intro i' l1; (try k_lt l1))))
  k_with "my TupRest" => ((fail_if_success k_extra "z14"); ((with_unfolding_all first | (refine TupRest.succ (fun it' h' tk' F' N' => ?_)) | (refine TupRest.zero (fun h' tk' F' N' => ?_)))))
  k_with "my exec For Name Call cons nil" => ((fail_if_success k_extra "z14"); ((k_here; (rename Fr _ _ _ _ => lF'); (with_unfolding_all refine' For_turns lF' ?_; k_whole))))
  trivial
theorem stored_org {o : Option Bool} {b : Bool} : stored (modeL o) (Str.ofString "origin") (.bool b) = modeL (some b) := by
  cases o <;> rfl
theorem len_modeL {o : Option Bool} : (modeL o).length ≤ sizeLine := by
  rw [sizeLine_eq]
  cases o <;> exact Nat.le_of_ble_eq_true rfl
theorem kw_WMeth_2 : True := by
  k_with "my setItem ref str" => ((fail_if_success k_extra "z14"); ((k_here; k_dflt (refine' kda_set (knd := PySem.strKind _ _) ?F_29 ?N_29 ?U_29 ?d_29 (strKind_is _ _ _ _) ?z_29 ?_; (case F_29 => k_asm); (case N_29 => k_asm); (case U_29 => k_updF); (case d_29 => k_asm); (case z_29 => exact len_modeL)); intro h' o' F' N' hd'; (try dsimp only at N'); rw [stored_org] at hd')))
  trivial
set_option maxHeartbeats 8000000 in
theorem set_okt (w : World) (p : Program) (loose : List Str) (mean : ExcName → Option Value) (mg mb : Str → Option Value) (mo md ss : Addr) (oss : Obj) (o : Option Bool) (t t0 t1 : Tok) (kp : Value) (h1 : @LT.lt Nat _ md mo) (h2 : @LT.lt Nat _ mo ss) (hs : oss.IsDictOf (strKind pw w) (modeL o)) :
    CqM w p loose mean mg mb 6 195 [.ref mo, .str (Str.ofString "origin") t, .bool true] [(mo, instObj 198 md), (md, dictOf [en w "states" t0 (.ref ss), en w "kept" t1 kp] 2), (ss, oss)] (fun v l => v = .none ∧ ∃ oss', l = [(mo, instObj 198 md), (md, dictOf [en w "states" t0 (.ref ss), en w "kept" t1 kp] 2), (ss, oss')] ∧ oss'.IsDictOf (strKind pw w) (modeL (some true))) := _root_.id <| by
  intro rest dis dp un gd cn cs a ccd cl outer A₀ base h₀ L m s Q E B F X N Tp hk hd hu hr
  revert h1 h2 hs dis B F X N Tp hk hd hu hr
  revert w p loose mean mg mb mo md ss oss o t t0 t1 kp rest dp un gd cn cs a ccd cl outer A₀ base h₀ L m s Q E
  k_extra "my d14"; intros w p loose mean mg mb mo md ss oss o t t0 t1; k_extra "my of"
  k_extra "my d14"; intros kp rest dp un gd cn cs a ccd cl outer A₀ base h₀; k_extra "my of"
  k_extra "my d5"; intros L m s Q E; k_extra "my of"
  intros h1 h2 hs dis B F X N Tp hk hd hu hr
  haveI mk : Mark := Mark.mk
  k_dflt k_extra "my e0"
  k_extra "my kclose"
  k_extra "my ks2"
  all_goals refine' hr _ _ ⟨rfl, _, rfl, ?_⟩ ?_ _ _ ?_ ?_
  all_goals first | assumption | (with_unfolding_all assumption) | (refine kept_join (by assumption) (by assumption) (by assumption) (by assumption) ?_; kcf_all) | (refine kept_apart (by assumption) (by assumption) ?_; kcf_all) | skip

set_option maxHeartbeats 8000000 in
theorem set_okf (w : World) (p : Program) (loose : List Str) (mean : ExcName → Option Value) (mg mb : Str → Option Value) (mo md ss : Addr) (oss : Obj) (o : Option Bool) (t t0 t1 : Tok) (kp : Value) (h1 : @LT.lt Nat _ md mo) (h2 : @LT.lt Nat _ mo ss) (hs : oss.IsDictOf (strKind pw w) (modeL o)) :
    CqM w p loose mean mg mb 6 195 [.ref mo, .str (Str.ofString "origin") t, .bool false] [(mo, instObj 198 md), (md, dictOf [en w "states" t0 (.ref ss), en w "kept" t1 kp] 2), (ss, oss)] (fun v l => v = .none ∧ ∃ oss', l = [(mo, instObj 198 md), (md, dictOf [en w "states" t0 (.ref ss), en w "kept" t1 kp] 2), (ss, oss')] ∧ oss'.IsDictOf (strKind pw w) (modeL (some false))) := _root_.id <| by
  intro rest dis dp un gd cn cs a ccd cl outer A₀ base h₀ L m s Q E B F X N Tp hk hd hu hr
  revert h1 h2 hs dis B F X N Tp hk hd hu hr
  revert w p loose mean mg mb mo md ss oss o t t0 t1 kp rest dp un gd cn cs a ccd cl outer A₀ base h₀ L m s Q E
  k_extra "my d14"; intros w p loose mean mg mb mo md ss oss o t t0 t1; k_extra "my of"
  k_extra "my d14"; intros kp rest dp un gd cn cs a ccd cl outer A₀ base h₀; k_extra "my of"
  k_extra "my d5"; intros L m s Q E; k_extra "my of"
  intros h1 h2 hs dis B F X N Tp hk hd hu hr
  haveI mk : Mark := Mark.mk
  k_dflt k_extra "my e0"
  k_extra "my kclose"
  k_extra "my ks2"
  all_goals refine' hr _ _ ⟨rfl, _, rfl, ?_⟩ ?_ _ _ ?_ ?_
  all_goals first | assumption | (with_unfolding_all assumption) | (refine kept_join (by assumption) (by assumption) (by assumption) (by assumption) ?_; kcf_all) | (refine kept_apart (by assumption) (by assumption) ?_; kcf_all) | skip

theorem set_ok (w : World) (p : Program) (loose : List Str) (mean : ExcName → Option Value) (mg mb : Str → Option Value) (mo md ss : Addr) (oss : Obj) (o : Option Bool) (b : Bool) (t t0 t1 : Tok) (kp : Value) (h1 : @LT.lt Nat _ md mo) (h2 : @LT.lt Nat _ mo ss) (hs : oss.IsDictOf (strKind pw w) (modeL o)) :
    CqM w p loose mean mg mb 6 195 [.ref mo, .str (Str.ofString "origin") t, .bool b] [(mo, instObj 198 md), (md, dictOf [en w "states" t0 (.ref ss), en w "kept" t1 kp] 2), (ss, oss)] (fun v l => v = .none ∧ ∃ oss', l = [(mo, instObj 198 md), (md, dictOf [en w "states" t0 (.ref ss), en w "kept" t1 kp] 2), (ss, oss')] ∧ oss'.IsDictOf (strKind pw w) (modeL (some b))) := by
  cases b with
  | true => exact set_okt w p loose mean mg mb mo md ss oss o t t0 t1 kp h1 h2 hs
  | false => exact set_okf w p loose mean mg mb mo md ss oss o t t0 t1 kp h1 h2 hs
theorem set_use {mo md ss : Addr} {oss : Obj} {o : Option Bool} {b : Bool} {t t0 t1 : Tok} {kp : Value} {g : Obj → Led} {w : World} {p : Program} {loose : List Str} {mean : ExcName → Option Value} {mg mb : Str → Option Value} {news : Led} {dp un : Nat} {gd : Option (List Code)} {cn : Str} {cs : Scope} {a : Addr} {ccd : Value} {cl : List (Str × Addr)} {outer : List Env} {A₀ : Around} {base h₀ : Heap} {L : Addr} {m : Str → Option Value} {s : Shared} {Q E : Value → Shared → Prop} (hm2 : (mo, instObj 198 md) ∈ news) (hm3 : (md, dictOf [en w "states" t0 (.ref ss), en w "kept" t1 kp] 2) ∈ news) (hm4 : (ss, oss) ∈ news)
    (U : UpdF ss oss news g) (h1 : @LT.lt Nat _ md mo) (h2 : @LT.lt Nat _ mo ss) (hs : oss.IsDictOf (strKind pw w) (modeL o))
    (B : Below A₀ base outer h₀) (F : Fr h₀ L s.heap m) (X : (KK w.params).In h₀) (N : News h₀ L s.heap news) (T : Top p loose mean mg mb h₀) (hk : cs.kind = .function) (hd : dp + 6 < recursionLimit) (hu : un + 100 * 6 < cLine)
    (r : ∀ oss', oss'.IsDictOf (strKind pw w) (modeL (some b)) → ∀ h' tk', Fr h₀ L h' m → News h₀ L h' (g oss') → Q ( .none) { s with heap := h', toks := tk' }) :
    wpAny (model pw w) (ktrTop dp un gd cn cs L a ccd cl outer) (call (.ref 195) [.ref mo, .str (Str.ofString "origin") t, .bool b]) Q E s := by
  have sameA : ∀ {x : Addr} {ox oy : Obj}, (x, ox) ∈ news → (x, oy) ∈ news → ox = oy := fun h h' => Option.some.inj ((N _ h).1.symm.trans (N _ h').1)
  have dis : Apart [(mo, instObj 198 md), (md, dictOf [en w "states" t0 (.ref ss), en w "kept" t1 kp] 2), (ss, oss)] (news.filter fun p => decide (p.1 ≠ mo ∧ p.1 ≠ md ∧ p.1 ≠ ss)) := fun p hp q hq => by
    have h := of_decide_eq_true (List.mem_filter.mp hp).2
    simp only [List.mem_cons, List.not_mem_nil, or_false] at hq
    rcases hq with rfl | rfl | rfl
    · exact h.1
    · exact h.2.1
    · exact h.2.2
  refine CqM.call (news.filter fun p => decide (p.1 ≠ mo ∧ p.1 ≠ md ∧ p.1 ≠ ss)) (set_ok w p loose mean mg mb mo md ss oss o b t t0 t1 kp h1 h2 hs) dis (fun p hp => ?_) B F X N T hk hd hu ?_
  · rcases List.mem_append.mp hp with hp | hp
    · simp only [List.mem_cons, List.not_mem_nil, or_false] at hp
      rcases hp with rfl | rfl | rfl <;> assumption
    · exact (List.mem_filter.mp hp).1
  · rintro v l ⟨rfl, oss', rfl, hs'⟩ ap h' tk' F' N'
    refine r oss' hs' h' tk' F' fun p hp => ?_
    rcases UpdF.mem U hp with rfl | ⟨hp, hne⟩
    · exact N' _ (.tail _ (.tail _ (.head _)))
    · by_cases e1 : p.1 = mo
      · have e : p = (mo, instObj 198 md) := Prod.ext e1 (sameA (x := mo) (e1 ▸ hp) hm2)
        exact e ▸ N' _ (.head _)
      · by_cases e2 : p.1 = md
        · have e : p = (md, dictOf [en w "states" t0 (.ref ss), en w "kept" t1 kp] 2) := Prod.ext e2 (sameA (x := md) (e2 ▸ hp) hm3)
          exact e ▸ N' _ (.tail _ (.head _))
        · exact N' _ (List.mem_append_right _ (List.mem_filter.mpr ⟨hp, decide_eq_true ⟨e1, e2, hne⟩⟩))

theorem modeL_none {w : World} {oss : Obj} (h : oss.IsDictOf (strKind pw w) modes0) : oss.IsDictOf (strKind pw w) (modeL none) := h
end
section
section
variable {prog : Program} {w : World} {A : Around} {E : Value → Shared → Prop} {s : Shared} {h₀ : Heap} {L : Addr} {m : Str → Option Value} {env : Env}
noncomputable def tupO (its : Array Value) (k : Nat) : Obj := { cls := .type "tuple", data := .seq its k }
noncomputable def CompSrcT (prog : Program) (w : World) (A : Around) (h₀ : Heap) (L : Addr) (m : Str → Option Value) (env : Env) (elt : PySem.Expr) (x : Str) (scope : Scope) (cl : List (Str × Addr)) (Fin : Shared → List Value → Led → Prop) (xv : Value) (s₁ : Shared) : Prop :=
  ∃ ax its k news, xv = .ref ax ∧ A.handled = none ∧ Fr h₀ L s₁.heap m ∧ News h₀ L s₁.heap news ∧ (ax, tupO its k) ∈ news ∧ its.size ≤ sizeLine ∧
    ∀ s₂ : Shared, (∃ h, s₂ = { s₁ with heap := h }) → LCg.CompRest prog w A h₀ L m env elt x scope cl s₂ (fun nw => (ax, tupO its k) ∈ nw) (fun i v => its[i]? = some v) (Fin s₂) its.size 0 [] news
theorem CompSrcT.intro {elt : PySem.Expr} {x : Str} {scope : Scope} {cl : List (Str × Addr)} {Fin : Shared → List Value → Led → Prop} {ax : Addr} {its : Array Value} {k : Nat} {news : Led} {s₁ : Shared}
    (hh : A.handled = none) (F : Fr h₀ L s₁.heap m) (N : News h₀ L s₁.heap news) (hm : (ax, tupO its k) ∈ news) (hsz : its.size ≤ sizeLine)
    (h : ∀ g, LCg.CompRest prog w A h₀ L m env elt x scope cl { s₁ with heap := g } (fun nw => (ax, tupO its k) ∈ nw) (fun i v => its[i]? = some v) (Fin { s₁ with heap := g }) its.size 0 [] news) :
    CompSrcT prog w A h₀ L m env elt x scope cl Fin (.ref ax) s₁ := ⟨ax, its, k, news, rfl, hh, F, N, hm, hsz, fun _ ⟨g, e⟩ => e ▸ h g⟩
theorem CompSrcT.introN {elt : PySem.Expr} {x : Str} {scope : Scope} {cl : List (Str × Addr)} {Fin : Shared → List Value → Led → Prop} {ax : Addr} {its : Array Value} {k : Nat} {news : Led} {s₁ : Shared} (n : Nat) (hn : its.size = n)
    (hh : A.handled = none) (F : Fr h₀ L s₁.heap m) (N : News h₀ L s₁.heap news) (hm : (ax, tupO its k) ∈ news) (hsz : n ≤ sizeLine)
    (h : ∀ g, LCg.CompRest prog w A h₀ L m env elt x scope cl { s₁ with heap := g } (fun nw => (ax, tupO its k) ∈ nw) (fun i v => its[i]? = some v) (Fin { s₁ with heap := g }) n 0 [] news) :
    CompSrcT prog w A h₀ L m env elt x scope cl Fin (.ref ax) s₁ := by
  subst hn
  exact CompSrcT.intro hh F N hm hsz h
theorem ListComp_T {elt iter : PySem.Expr} {x : Str} {px : Pos} {scope : Scope} {cl : List (Str × Addr)} {pos : Pos} {Q : Value → Shared → Prop} (F₀ : Fr h₀ L s.heap m)
    (hclos : closureFor scope env = pure cl) (hcell : ∀ y ∈ scope.names, y.2 ≠ .cell) (hkind : scope.kind = .function)
    (hnames : ∀ y ∈ scope.names, y.2 = .local → scope.names.lookup y.1 = some .local) (hx : scope.names.lookup x = some .local)
    (h : wpAny (model prog w) A (eval iter env) (CompSrcT prog w A h₀ L m env elt x scope cl (fun s₂ => LCg.FinE h₀ L m s₂ Q)) E s)
    (hs : ∀ x, foldedSetIterable iter env x = pure x := by intro _; rfl) :
    wpAny (model prog w) A (eval (.ListComp elt [⟨.Name x px, iter, [], 0⟩] scope pos) env) Q E s := by
  rw [eval_ListComp]
  refine wpAny_comprehension_free (use := none) rfl hs hclos hkind hnames (wpAny_mono h (fun xv s₁ h₁ => ?_) fun _ _ e => e)
  obtain ⟨ax, its, k, news, rfl, hh, F, N, S, hsz, R⟩ := h₁
  have hl : s₁.heap.IsTuple ax its := ⟨_, (N _ S).1, rfl, k, rfl⟩
  have hlt : ax < s₁.heap.objs.size := by obtain ⟨_, e, _⟩ := hl; exact Heap.lt_size e
  refine wpAny_pyIter_tuple hl ?_
  have up : ∀ b o, s₁.heap.get? b = some o → (s₁.heap.push { cls := .type "tuple_iterator", data := .fields #[.ref ax, .int 0 0] }).get? b = some o := fun b o e => Heap.get?_push_of_some _ e
  refine LCg.block_U (Walks.tuple hh s₁.heap.objs.size ax (Nat.ne_of_lt hlt) its) hsz (fun i h st => by obtain ⟨o, e, _⟩ := st.1; exact ⟨o, e⟩)
    (fun i h h' o nw st e e' k N S => ⟨by obtain ⟨o', q, r⟩ := st.1; rw [e] at q; cases q; exact ⟨o, e', r⟩, ⟨_, (N _ S).1, rfl, _, rfl⟩⟩) hcell hkind hx ⟨⟨_, Heap.get?_push_size _ rfl, rfl, rfl⟩, hl.at fun o e => up _ _ e⟩ (fun b hb => ?_)
    (F.keeps up) (N.grown up) (Nat.ne_of_lt F.ns.lt) (next_is_new F) (fun p hp => Nat.ne_of_lt (Heap.lt_size (N p hp).1)) S (R _ ⟨_, rfl⟩) ?_
  · show b < (s₁.heap.push _).objs.size
    rw [Heap.size_push]
    rcases List.mem_cons.mp hb with rfl | hb
    · exact Nat.lt_succ_self _
    · rw [List.mem_singleton.mp hb]; exact Nat.lt_succ_of_lt hlt
  · intro D C h tk m' ys news' F' N' o1 hn hC₀ hD₀ hCL hDL hCD offC fin
    refine ⟨m', hn, fun h'' hs'' => fin D h'' tk (F'.change hs'' hCL hC₀) (fun p hp => ?_) o1⟩
    refine ⟨hs''.extBut _ _ ?_ (N' p hp).1, (N' p hp).2⟩
    rcases List.mem_cons.mp hp with rfl | hp
    · exact Ne.symm hCD
    · exact offC p hp
end
section
variable {prog : Program} {w : World} {A : Around} {h₀ : Heap} {L : Addr} {m : Str → Option Value} {env : Env} {elt : PySem.Expr} {x : Str} {scope : Scope} {cl : List (Str × Addr)} {s : Shared} {S : Led → Prop} {P : Nat → Value → Prop} {Fin : List Value → Led → Prop} {news : Led}
theorem cx_fold {n : Nat} (J : Nat → List Value → Led → Prop)
    (turn : ∀ i v ys nw I oI C oC D m₂ h tk (E' : Value → Shared → Prop), i < n → P i v → J i ys nw → LCg.NsObj oC m₂ → m₂ x = some v → Fr h₀ L h m → News h₀ L h ((I, oI) :: (C, oC) :: (D, LCg.lst ys) :: nw) → LCg.Off3 I C D nw → ((@Ne Nat I C) ∧ (@Ne Nat I D) ∧ (@Ne Nat C D)) →
      wpAny (model prog w) A (eval elt (compEnvC scope cl C env)) (LCg.CompEnd h₀ L m { s with heap := h, toks := tk } I oI C oC D (LCg.lst ys) S (fun y nw' => J (i + 1) (ys ++ [y]) nw')) E' { s with heap := h, toks := tk })
    (base : J 0 [] news) (fin : ∀ ys nw, J n ys nw → Fin ys nw) : LCg.CompRest prog w A h₀ L m env elt x scope cl s S P Fin n 0 [] news := by
  have key : ∀ (j i : Nat) (ys : List Value) (nw : Led), i + j = n → J i ys nw → LCg.CompRest prog w A h₀ L m env elt x scope cl s S P Fin j i ys nw := by
    intro j
    induction j with
    | zero =>
      intro i ys nw hi hJ
      have e : i = n := by omega
      exact LCg.CompRest.zero (fin ys nw (e ▸ hJ))
    | succ j ih =>
      intro i ys nw hi hJ
      refine LCg.CompRest.succ ?_
      intro v I oI C oC D m₂ h tk E' hv hC hx F N off ne
      refine wpAny_mono (turn i v ys nw I oI C oC D m₂ h tk E' (by omega) hv hJ hC hx F N off ne) (fun y s₂ hq => ?_) fun _ _ e => e
      obtain ⟨h', tk', nw', e, F', N', off', hS, hJ'⟩ := hq
      exact ⟨h', tk', nw', e, F', N', off', hS, ih (i + 1) _ _ (by omega) hJ'⟩
  exact key n 0 [] news (by omega) base
noncomputable def DrawJ (w : World) (c : Addr) (n : Nat) (top : Int) (g : Obj → Obj → Led) (i : Nat) (ys : List Value) (nw : Led) : Prop :=
  ∃ od oc ns, Deck w c (n + i) od oc ∧ nw = g od oc ∧ IntsAre ys ns ∧ ns.length = i ∧ (∀ z ∈ ns, 0 ≤ z ∧ z ≤ top)
theorem DrawJ.base {c : Addr} {n : Nat} {top : Int} {g : Obj → Obj → Led} {od oc : Obj} (D : Deck w c n od oc) (e : news = g od oc) : DrawJ w c n top g 0 [] news :=
  ⟨od, oc, [], D, e, .nil, rfl, fun _ h => nomatch h⟩
theorem DrawJ.step {c : Addr} {n i : Nat} {top z : Int} {tz : Tok} {g : Obj → Obj → Led} {od oc : Obj} {ys : List Value} {ns : List Int} {nw : Led} (D : Deck w c (n + i + 1) od oc) (e : nw = g od oc) (hi : IntsAre ys ns) (hl : ns.length = i) (hz : ∀ z ∈ ns, 0 ≤ z ∧ z ≤ top) (h0 : 0 ≤ z) (h1 : z ≤ top) : DrawJ w c n top g (i + 1) (ys ++ [.int z tz]) nw :=
  ⟨od, oc, ns ++ [z], D, e, IntsAre.append hi (.cons _ _ .nil), by simp [hl], fun y hy => by
    rcases List.mem_append.mp hy with hy | hy
    · exact hz y hy
    · rw [List.mem_singleton.mp hy]; exact ⟨h0, h1⟩⟩
end
theorem UpdF.same {d : Addr} {o : Obj} {l : Led} {g : Obj → Led} (U : UpdF d o l g) : l = g o := by
  obtain ⟨pre, post, rfl, hg, _⟩ := U.split
  rw [hg]
section
variable {prog : Program} {w : World} {A : Around} {h₀ : Heap} {L : Addr} {m : Str → Option Value} {env : Env} {elt : PySem.Expr} {x : Str} {scope : Scope} {cl : List (Str × Addr)} {s : Shared} {S : Led → Prop} {P : Nat → Value → Prop} {Fin : List Value → Led → Prop} {news : Led}
theorem cx_draws {n n₀ : Nat} {d c : Addr} {od oc : Obj} {g1 : Obj → Led} {g2 : Obj → Obj → Led} (top : Int) (hD : Deck w c n₀ od oc) (_hm : (d, od) ∈ news) (U1 : UpdF d od news g1) (U2 : ∀ o', UpdF c oc (g1 o') (g2 o'))
    (turn : ∀ i v ys od oc ns I oI C oC D m₂ h tk (E' : Value → Shared → Prop), i < n → P i v → Deck w c (n₀ + i) od oc → IntsAre ys ns → ns.length = i → (∀ z ∈ ns, 0 ≤ z ∧ z ≤ top) → LCg.NsObj oC m₂ → m₂ x = some v → Fr h₀ L h m → News h₀ L h ((I, oI) :: (C, oC) :: (D, LCg.lst ys) :: g2 od oc) → LCg.Off3 I C D (g2 od oc) → ((@Ne Nat I C) ∧ (@Ne Nat I D) ∧ (@Ne Nat C D)) →
      wpAny (model prog w) A (eval elt (compEnvC scope cl C env)) (LCg.CompEnd h₀ L m { s with heap := h, toks := tk } I oI C oC D (LCg.lst ys) S (fun y nw' => DrawJ w c n₀ top g2 (i + 1) (ys ++ [y]) nw')) E' { s with heap := h, toks := tk })
    (fin : ∀ ys ns od oc, Deck w c (n₀ + n) od oc → IntsAre ys ns → ns.length = n → (∀ z ∈ ns, 0 ≤ z ∧ z ≤ top) → Fin ys (g2 od oc)) : LCg.CompRest prog w A h₀ L m env elt x scope cl s S P Fin n 0 [] news := by
  refine cx_fold (DrawJ w c n₀ top g2) ?_ (DrawJ.base hD (by rw [UpdF.same U1, UpdF.same (U2 od)])) ?_
  · rintro i v ys nw I oI C oC D m₂ h tk E' hi hv ⟨od, oc, ns, hd, rfl, h1, h2, h3⟩ hC hx F N off ne
    exact turn i v ys od oc ns I oI C oC D m₂ h tk E' hi hv hd h1 h2 h3 hC hx F N off ne
  · rintro ys nw ⟨od, oc, ns, hd, rfl, h1, h2, h3⟩
    exact fin ys ns od oc hd h1 h2 h3
end
theorem mul01 {v x : Int} (h0 : 0 ≤ v) (h1 : v < 2) (h2 : 1 ≤ x) (h3 : x ≤ 128) : 0 ≤ v * x ∧ v * x ≤ 128 := by
  have : v = 0 ∨ v = 1 := by omega
  rcases this with rfl | rfl <;> omega
theorem sum_top {ns : List Int} {top : Int} (h : ∀ z ∈ ns, 0 ≤ z ∧ z ≤ top) : 0 ≤ ns.sum ∧ ns.sum ≤ ns.length * top := by
  induction ns with
  | nil => simp
  | cons z r ih =>
    have h1 := h z (List.mem_cons_self ..)
    have h2 := ih fun y hy => h y (List.mem_cons_of_mem _ hy)
    rw [List.sum_cons, List.length_cons]
    have : ((r.length + 1 : Nat) : Int) * top = r.length * top + top := by rw [Int.natCast_add, Int.add_mul]; simp
    omega
end
section
section
variable {prog : Program} {w : World} {A : Around} {E : Value → Shared → Prop} {s : Shared} {h₀ : Heap} {L : Addr} {m : Str → Option Value} {env : Env}
noncomputable def CompSrcS (prog : Program) (w : World) (A : Around) (h₀ : Heap) (L : Addr) (m : Str → Option Value) (env : Env) (elt : PySem.Expr) (x : Str) (scope : Scope) (cl : List (Str × Addr)) (Fin : Shared → List Value → Led → Prop) (xv : Value) (s₁ : Shared) : Prop :=
  ∃ tx t news, xv = .str tx t ∧ A.handled = none ∧ tx.cps.all (· < 128) = true ∧ Fr h₀ L s₁.heap m ∧ News h₀ L s₁.heap news ∧ tx.cps.size ≤ sizeLine ∧
    ∀ s₂ : Shared, (∃ h, s₂ = { s₁ with heap := h }) → LCg.CompRest prog w A h₀ L m env elt x scope cl s₂ (fun _ => True) (SignAt tx) (Fin s₂) tx.cps.size 0 [] news
theorem CompSrcS.one {elt : PySem.Expr} {x : Str} {scope : Scope} {cl : List (Str × Addr)} {Fin : Shared → List Value → Led → Prop} {tx : Str} {t : Tok} {c : Nat} {news : Led} {s₁ : Shared}
    (hc : tx.cps = #[c]) (hh : A.handled = none) (ha : c < 128) (F : Fr h₀ L s₁.heap m) (N : News h₀ L s₁.heap news)
    (turn : ∀ g u I oI C oC D m₂ h tk (E' : Value → Shared → Prop), LCg.NsObj oC m₂ → m₂ x = some (.str ⟨#[c]⟩ u) → Fr h₀ L h m → News h₀ L h ((I, oI) :: (C, oC) :: (D, LCg.lst []) :: news) → LCg.Off3 I C D news → ((@Ne Nat I C) ∧ (@Ne Nat I D) ∧ (@Ne Nat C D)) →
      wpAny (model prog w) A (eval elt (compEnvC scope cl C env)) (LCg.CompEnd h₀ L m { s₁ with heap := h, toks := tk } I oI C oC D (LCg.lst []) (fun _ => True) (fun y nw' => Fin { s₁ with heap := g } [y] nw')) E' { s₁ with heap := h, toks := tk }) :
    CompSrcS prog w A h₀ L m env elt x scope cl Fin (.str tx t) s₁ := by
  refine ⟨tx, t, news, rfl, hh, by rw [hc]; simpa using ha, F, N, by rw [hc]; exact Nat.le_of_ble_eq_true rfl, ?_⟩
  rintro s₂ ⟨g, rfl⟩
  have key : LCg.CompRest prog w A h₀ L m env elt x scope cl { s₁ with heap := g } (fun _ => True) (SignAt tx) (Fin { s₁ with heap := g }) 1 0 [] news := by
    refine LCg.CompRest.succ ?_
    rintro v I oI C oC D m₂ h tk E' ⟨c', u, hc', rfl⟩ hC hx F N off ne
    rw [hc] at hc'
    have : c' = c := by simpa using hc'.symm
    subst this
    exact wpAny_mono (turn g u I oI C oC D m₂ h tk E' hC hx F N off ne) (fun y s₂ hq => hq) fun _ _ e => e
  have e : tx.cps.size = 1 := by rw [hc]; rfl
  rw [e]
  exact key
theorem ListComp_S {elt iter : PySem.Expr} {x : Str} {px : Pos} {scope : Scope} {cl : List (Str × Addr)} {pos : Pos} {Q : Value → Shared → Prop} (F₀ : Fr h₀ L s.heap m)
    (hclos : closureFor scope env = pure cl) (hcell : ∀ y ∈ scope.names, y.2 ≠ .cell) (hkind : scope.kind = .function)
    (hnames : ∀ y ∈ scope.names, y.2 = .local → scope.names.lookup y.1 = some .local) (hx : scope.names.lookup x = some .local)
    (h : wpAny (model prog w) A (eval iter env) (CompSrcS prog w A h₀ L m env elt x scope cl (fun s₂ => LCg.FinE h₀ L m s₂ Q)) E s)
    (hs : ∀ x, foldedSetIterable iter env x = pure x := by intro _; rfl) :
    wpAny (model prog w) A (eval (.ListComp elt [⟨.Name x px, iter, [], 0⟩] scope pos) env) Q E s := by
  rw [eval_ListComp]
  refine wpAny_comprehension_free (use := none) rfl hs hclos hkind hnames (wpAny_mono h (fun xv s₁ h₁ => ?_) fun _ _ e => e)
  obtain ⟨tx, t, news, rfl, hh, ha, F, N, hsz, R⟩ := h₁
  refine wpAny_pyIter_ascii ha ?_
  have up : ∀ (o : Obj) b ob, s₁.heap.get? b = some ob → (s₁.heap.push o).get? b = some ob := fun o b ob e => Heap.get?_push_of_some _ e
  refine LCg.block_U (Walks.strAscii hh s₁.heap.objs.size tx t) hsz (fun i h st => by obtain ⟨o, e, _⟩ := st; exact ⟨o, e⟩)
    (fun i h h' o nw st e e' k N S => by obtain ⟨o', q, r⟩ := st; rw [e] at q; cases q; exact ⟨o, e', r⟩) hcell hkind hx ⟨_, Heap.get?_push_size _ rfl, rfl, rfl⟩ (fun b hb => ?_)
    (F.keeps (up _)) (N.grown (up _)) (Nat.ne_of_lt F.ns.lt) (next_is_new F) (fun p hp => Nat.ne_of_lt (Heap.lt_size (N p hp).1)) trivial (R _ ⟨_, rfl⟩) ?_
  · show b < (s₁.heap.push _).objs.size
    rw [Heap.size_push, List.mem_singleton.mp hb]
    exact Nat.lt_succ_self _
  · intro D C h tk m' ys news' F' N' o1 hn hC₀ hD₀ hCL hDL hCD offC fin
    refine ⟨m', hn, fun h'' hs'' => fin D h'' tk (F'.change hs'' hCL hC₀) (fun p hp => ?_) o1⟩
    refine ⟨hs''.extBut _ _ ?_ (N' p hp).1, (N' p hp).2⟩
    rcases List.mem_cons.mp hp with rfl | hp
    · exact Ne.symm hCD
    · exact offC p hp
end
end
section
theorem kw_WDec_0 : True := by
  k_with "z14" => skip
  k_with "my e0" => ((fail_if_success k_extra "z17"); ((refine' code_defR dis ?k1_30 ?k2_30 ?k3_30 ?k4_30 ?k5_30 ?kA_30 ?kF_30 ?kK_30 ?k6_30 ?k7_30 ?k8_30 ?k9_30 ?kB_30 ?_ ?c2_30 ?c3_30 ?c4_30 ?c5_30; (case kA_30 => exact rfl); (case kF_30 => exact rfl); (case kK_30 => first | assumption | exact rfl); (case k1_30 => k_asm); (case k2_30 => k_asm); (case k3_30 => k_asm); (case k4_30 => k_asm); (case k5_30 => k_asm); (case k6_30 => k_is); (case k7_30 => k_is); (case k8_30 => k_room); (case k9_30 => first | exact BindsTo.of_eq rfl | exact binds_K (by k_in) rfl (by k_is) rfl rfl rfl); (case c5_30 => decide); (case kB_30 => exact locs rfl); (case c2_30 => exact rfl); (case c3_30 => exact rfl); (case c4_30 => exact rfl); k_whole; intro g' L' h' FG' F' N' B' X' T' kp lL; have lLs := lt_small lL; (try k_lt lLs); (try dsimp only); (try k_lift B'); (try k_fold))))
  trivial
theorem small_fdiv {n : Int} (h0 : 0 ≤ n) (h1 : n ≤ 9) : decide (0 < n.fdiv 10) = false := by
  have : n.fdiv 10 = 0 := by rw [Int.fdiv_eq_ediv_of_nonneg _ (by decide)]; omega
  rw [this]; rfl
theorem small_fmod {n : Int} (h0 : 0 ≤ n) (h1 : n ≤ 9) : n.fmod 10 = n := by
  rw [Int.fmod_eq_emod_of_nonneg _ (by decide)]; omega
theorem in1 {m : Int} (h0 : 0 ≤ m) (h1 : m < 256) : KBa.In [m] := fun z hz => by rw [List.mem_singleton.mp hz]; exact ⟨h0, h1⟩
theorem in1m {n : Int} (h0 : 0 ≤ n) (h1 : n ≤ 9) : KBa.In [48 + n.fmod 10] := in1 (by rw [small_fmod h0 h1]; omega) (by rw [small_fmod h0 h1]; omega)
theorem dig_nat {n : Int} (h0 : 0 ≤ n) : ((((48 + n).toNat : Nat)) : Int) = 48 + n := Int.toNat_of_nonneg (by omega)
theorem dig128 {n : Int} (h0 : 0 ≤ n) (h1 : n ≤ 9) : (48 + n).toNat < 128 := by omega
theorem in1n {n : Int} (h0 : 0 ≤ n) (h1 : n ≤ 9) : KBa.In [((((48 + n).toNat : Nat)) : Int)] := in1 (by omega) (by omega)
theorem dig_text : ∀ k : _root_.Fin 10, (PySem.Str.ofString (toString (k.val : Int))) = (⟨#[48 + k.val]⟩ : PySem.Str) := by decide +kernel
theorem str_dig {prog : Program} {w : World} {A : Around} {E : Value → Shared → Prop} {s : Shared} {n : Int} {t : Tok} {Q : Value → Shared → Prop} (h0 : 0 ≤ n) (h1 : n ≤ 9)
    (h : Q (.str ⟨#[(48 + n).toNat]⟩ s.toks) { s with toks := s.toks + 1 }) : wpAny (model prog w) A (call (.type "str") [.int n t]) Q E s := by
  refine P.str_of_int (shown (N := 2 ^ 1920) (by omega) (by omega) (Int.le_refl _)) ?_
  have e := dig_text ⟨n.toNat, by omega⟩
  have e1 : ((n.toNat : Nat) : Int) = n := Int.toNat_of_nonneg h0
  have e2 : (48 + n).toNat = 48 + n.toNat := by omega
  rw [e2] at h
  simp only [e1] at e
  rw [e]
  exact h
theorem kw_WDec_1 : True := by
  k_with "my WhlIf" => ((fail_if_success k_extra "z17"); ((refine WhlIf.no (small_fdiv (by assumption) (by assumption)) ?_)))
  k_with "my call type:bytes" => ((fail_if_success k_extra "z17"); ((k_here; (refine KBa.make_K (by k_asm) (by k_asm) (by rfl) (by kba_isList) (.cons _ _ .nil) (by first | exact in1m (by assumption) (by assumption) | exact in1n (by assumption) (by assumption) | exact in1 (by decide) (by decide) | exact in1 (by omega) (by omega)) (Nat.le_of_ble_eq_true rfl) ?_); intro h' t' k' F' N' i')))
  trivial
set_option maxHeartbeats 4000000 in
theorem dec_ok (w : World) (p : Program) (loose : List Str) (mean : ExcName → Option Value) (mg mb : Str → Option Value) (n : Int) (t : Tok) (h0 : 0 ≤ n) (h1 : n ≤ 9) :
    Cr w p loose mean mg mb 4 69 [.int n t] [] (fun v l => (∃ t', v = .bytes (byteArr [48 + n]) t') ∧ l = []) := _root_.id <| by
  intro rest dis dp un gd cn cs a ccd cl outer A₀ base h₀ L m s Q E B F X N Tp hk hd hu hr
  refine wpAny_call ?_
  k_dflt k_extra "my e0"
  k_steps
  refine' hr _ _ ⟨⟨_, congrArg (fun z => Value.bytes (byteArr [48 + z]) _) (small_fmod h0 h1)⟩, rfl⟩ ?ap _ _ ?ff ?nn
  case ff => assumption
  case nn =>
    refine kept_joinR (by assumption) (by assumption) (by assumption) (by assumption) ?_
    try simp only [List.cons_append, List.nil_append]
    kcf_all
  case ap =>
    refine apart_app ?_ (kept_apart (by assumption) (by assumption) ?_)
    · repeat' (first | exact List.forall_mem_nil _ | (refine List.forall_mem_cons.mpr ⟨?_, ?_⟩))
      all_goals k_ne
    · try simp only [List.cons_append, List.nil_append]
      kcf_all
  all_goals first | assumption | omega
theorem kw_WDec_2 : True := by
  k_with "my eval ListComp" => ((fail_if_success k_extra "z17"); ((k_here; k_dflt (refine ListComp_S (F₀ := by k_asm) (by with_unfolding_all rfl) (by decide) (by rfl) (by decide) (by rfl) ?_))))
  k_with "my CompSrcS" => ((fail_if_success k_extra "z17"); ((k_here; k_dflt (refine CompSrcS.one (by rfl) (by rfl) (by first | exact dig128 (by assumption) (by assumption) | decide) (by k_asm) (by k_asm) (fun g' u' I' oI' C' oC' Dl' m' h' tk' E' hC' hx' F' N' off' ne' => ?_)); (try (simp only [LCg.Off3, and_true] at off')))))
  k_with "my call type:str" => ((fail_if_success k_extra "z17"); ((k_here; (with_reducible show wpAny _ _ (call (Value.type "str") [Value.int _ _]) _ _ _); (refine str_dig (by assumption) (by assumption) ?_))))
  trivial
set_option maxHeartbeats 4000000 in
theorem ldec_ok (w : World) (p : Program) (loose : List Str) (mean : ExcName → Option Value) (mg mb : Str → Option Value) (n : Int) (t : Tok) (h0 : 0 ≤ n) (h1 : n ≤ 9) :
    Cr w p loose mean mg mb 4 1316 [.int n t] [] (fun v l => (∃ t', v = .bytes (byteArr [48 + n]) t') ∧ l = []) := _root_.id <| by
  intro rest dis dp un gd cn cs a ccd cl outer A₀ base h₀ L m s Q E B F X N Tp hk hd hu hr
  refine wpAny_call ?_
  k_dflt k_extra "my e0"
  k_steps
  refine' hr _ _ ⟨⟨_, congrArg (fun z => Value.bytes (byteArr [z]) _) (dig_nat h0)⟩, rfl⟩ ?ap _ _ ?ff ?nn
  case ff => assumption
  case nn =>
    refine kept_joinR (by assumption) (by assumption) (by assumption) (by assumption) ?_
    try simp only [List.cons_append, List.nil_append]
    kcf_all
  case ap =>
    refine apart_app ?_ (kept_apart (by assumption) (by assumption) ?_)
    · repeat' (first | exact List.forall_mem_nil _ | (refine List.forall_mem_cons.mpr ⟨?_, ?_⟩))
      all_goals k_ne
    · try simp only [List.cons_append, List.nil_append]
      kcf_all
  all_goals first | assumption | omega
end
section
noncomputable def b01 (b : Bool) : Int := if b then 1 else 0
theorem kw_WBits_0 : True := by
  k_with "z17" => skip
  k_with "my kfold" => ((fail_if_success k_extra "z18"); skip)
  k_with "my kf" => ((fail_if_success k_extra "z18"); (k_extra "my kclose"))
  trivial
inductive TruV : Value → Bool → Prop
  | bool (b : Bool) : TruV (.bool b) b
  | int (x : Int) (t : Tok) : TruV (.int x t) (x != 0)
theorem TruV.ask {prog : Program} {w : World} {A : Around} {E : Value → Shared → Prop} {s : Shared} {v : Value} {b : Bool} {Q : Bool → Shared → Prop} (h : TruV v b) (q : Q b s) : wpAny (model prog w) A (truthy v) Q E s := by
  cases h with
  | bool => exact wpAny_truthy_bool q
  | int => exact truthy_int q
theorem IfExp01 {prog : Program} {w : World} {A : Around} {E : Value → Shared → Prop} {s : Shared} {h₀ : Heap} {L a : Addr} {m : Str → Option Value} {cn : Str} {cs : Scope} {ccd : Value} {cl : List (Str × Addr)} {x : Str} {px pos p1 p2 : Pos} {v : Value} {b : Bool} {Q : Value → Shared → Prop} {k1 k2 : Nat}
    (F : Fr h₀ L s.heap m) (hv : m x = some v) (hT : TruV v b) (hk : cs.kind = .function) (hx : (envX cn cs L a ccd cl).kindOf x = some .local) (hd : (x == ("__debug__" : Str)) = false)
    (h : Q (.int (b01 b) s.toks) { s with toks := s.toks + 1 }) : wpAny (model prog w) A (eval (.IfExp (.Name x px) (.Constant (.int 1) k1 p1) (.Constant (.int 0) k2 p2) pos) (envX cn cs L a ccd cl)) Q E s := by
  refine IfExp_ (isTrue_plain (nameX_L F hv (hT.ask ?_) hk hx hd))
  cases b
  · exact wpAny_Constant_int h
  · exact wpAny_Constant_int h
theorem kw_WBits_1 : True := by
  k_with "my eval IfExp" => ((fail_if_success k_extra "z18"); ((k_here; k_dflt (refine IfExp01 (by k_asm) (by with_unfolding_all rfl) (by with_reducible assumption) (by rfl) (by rfl) (by decide) ?_))))
  trivial
theorem b01_small {b : Bool} : (b01 b).natAbs < 2 ^ 64 := by cases b <;> decide
noncomputable def bit4 (a b c d : Bool) : Int := 64 + b01 a + 2 * b01 b + 4 * b01 c + 8 * b01 d
noncomputable def bit1 (a : Bool) : Int := 64 + b01 a
theorem bo1 (a : Bool) : Builtin.bitOr 64 (b01 a * 2 ^ Int.toNat 0) = bit1 a := by cases a <;> decide
theorem bo4 (a b c d : Bool) : Builtin.bitOr (Builtin.bitOr (Builtin.bitOr (Builtin.bitOr 64 (b01 a * 2 ^ Int.toNat 0)) (b01 b * 2 ^ Int.toNat 1)) (b01 c * 2 ^ Int.toNat 2)) (b01 d * 2 ^ Int.toNat 3) = bit4 a b c d := by cases a <;> cases b <;> cases c <;> cases d <;> decide
theorem in_bo1 (a : Bool) : KBa.In [Builtin.bitOr 64 (b01 a * 2 ^ Int.toNat 0)] := by
  rw [bo1]
  exact in1 (by cases a <;> decide) (by cases a <;> decide)
theorem in_bo4 (a b c d : Bool) : KBa.In [Builtin.bitOr (Builtin.bitOr (Builtin.bitOr (Builtin.bitOr 64 (b01 a * 2 ^ Int.toNat 0)) (b01 b * 2 ^ Int.toNat 1)) (b01 c * 2 ^ Int.toNat 2)) (b01 d * 2 ^ Int.toNat 3)] := by
  rw [bo4]
  exact in1 (by cases a <;> cases b <;> cases c <;> cases d <;> decide) (by cases a <;> cases b <;> cases c <;> cases d <;> decide)
theorem kw_WBits_2 : True := by
  k_with "my binaryOp LShift int int" => ((fail_if_success k_extra "z18"); ((k_here; (with_unfolding_all refine lshift_int_small (by decide) (by decide) b01_small ?_))))
  k_with "my call type:bytes" => ((fail_if_success k_extra "z18"); ((k_here; k_dflt (refine KBa.make_K (by k_asm) (by k_asm) (by rfl) (by kba_isList) (.cons _ _ .nil) (by first | exact in_bo1 _ | exact in_bo4 _ _ _ _) (Nat.le_of_ble_eq_true rfl) ?_); intro h' t' k' F' N' i')))
  trivial
set_option maxHeartbeats 4000000 in
theorem bits1 (w : World) (p : Program) (loose : List Str) (mean : ExcName → Option Value) (mg mb : Str → Option Value) (q : Addr) (k : Nat) (va : Value) (xa : Bool) (ha : TruV va xa) :
    Cr w p loose mean mg mb 4 123 [.ref q] [(q, W.listOf #[va] k)] (fun v l => (∃ t', v = .bytes (byteArr [bit1 xa]) t') ∧ l = []) := _root_.id <| by
  k_dflt (refine' Cr.of_body (binds := [(("truths" : Str), .ref q)]) ?k6 ?k7 ?k9 ?kB ?c2 ?c3 ?c4 ?c5 ?_; (case k6 => k_is); (case k7 => k_is); (case k9 => exact rfl); (case kB => exact locs rfl); (case c2 => exact rfl); (case c3 => exact rfl); (case c4 => exact rfl); (case c5 => decide))
  intro dp un gd outer A₀ base g L h tk gs dr os Q B X Tp F N lL hd hu hQ
  revert ha B X Tp F N lL hd hu hQ
  revert w p loose mean mg mb q k va xa dp un gd outer A₀ base g L h tk gs dr os Q
  k_extra "my d14"; intros w p loose mean mg mb q k va xa dp un gd outer; k_extra "my of"
  k_extra "my d8"; intros A₀ base g L h tk gs dr; k_extra "my of"
  k_extra "my d2"; intros os Q; k_extra "my of"
  intros ha B X Tp F N lL hd hu hQ
  haveI mk : Mark := Mark.mk
  try k_lt lL
  k_extra "my kclose"
  k_extra "my ks2"
  refine' hQ _ _ [] _ _ _ ?ff ?nn ?sub ?ap ⟨⟨_, congrArg (fun z => Value.bytes (byteArr [z]) _) (bo1 xa)⟩, rfl⟩
  case ff => assumption
  case nn => assumption
  case sub => (try simp only [List.cons_append, List.nil_append]); kcf_all
  case ap => exact List.forall_mem_nil _
set_option maxHeartbeats 4000000 in
theorem bits4 (w : World) (p : Program) (loose : List Str) (mean : ExcName → Option Value) (mg mb : Str → Option Value) (q : Addr) (k : Nat) (va vb vc vd : Value) (xa xb xc xd : Bool) (ha : TruV va xa) (hb : TruV vb xb) (hc : TruV vc xc) (hd : TruV vd xd) :
    Cr w p loose mean mg mb 4 123 [.ref q] [(q, W.listOf #[va, vb, vc, vd] k)] (fun v l => (∃ t', v = .bytes (byteArr [bit4 xa xb xc xd]) t') ∧ l = []) := _root_.id <| by
  k_dflt (refine' Cr.of_body (binds := [(("truths" : Str), .ref q)]) ?k6 ?k7 ?k9 ?kB ?c2 ?c3 ?c4 ?c5 ?_; (case k6 => k_is); (case k7 => k_is); (case k9 => exact rfl); (case kB => exact locs rfl); (case c2 => exact rfl); (case c3 => exact rfl); (case c4 => exact rfl); (case c5 => decide))
  intro dp un gd outer A₀ base g L h tk gs dr os Q B X Tp F N lL hdR hu hQ
  revert ha hb hc hd B X Tp F N lL hdR hu hQ
  revert w p loose mean mg mb q k va vb vc vd xa xb xc xd dp un gd outer A₀ base g L h tk gs dr os Q
  k_extra "my d14"; intros w p loose mean mg mb q k va vb vc vd xa xb; k_extra "my of"
  k_extra "my d14"; intros xc xd dp un gd outer A₀ base g L h tk gs dr; k_extra "my of"
  k_extra "my d2"; intros os Q; k_extra "my of"
  intros ha hb hc hd B X Tp F N lL hdR hu hQ
  haveI mk : Mark := Mark.mk
  try k_lt lL
  k_extra "my kclose"
  k_extra "my ks2"
  refine' hQ _ _ [] _ _ _ ?ff ?nn ?sub ?ap ⟨⟨_, congrArg (fun z => Value.bytes (byteArr [z]) _) (bo4 xa xb xc xd)⟩, rfl⟩
  case ff => assumption
  case nn => assumption
  case sub => (try simp only [List.cons_append, List.nil_append]); kcf_all
  case ap => exact List.forall_mem_nil _
end
section
theorem kw_WNum_0 : True := by
  k_with "z18" => skip
  k_with "my kfold" => ((fail_if_success k_extra "z19"); skip)
  k_with "my e0" => ((fail_if_success k_extra "z19"); ((refine' code_defR dis ?k1_40 ?k2_40 ?k3_40 ?k4_40 ?k5_40 ?kA_40 ?kF_40 ?kK_40 ?k6_40 ?k7_40 ?k8_40 ?k9_40 ?kB_40 ?_ ?c2_40 ?c3_40 ?c4_40 ?c5_40; (case kA_40 => exact rfl); (case kF_40 => exact rfl); (case kK_40 => first | assumption | exact rfl); (case k1_40 => k_asm); (case k2_40 => k_asm); (case k3_40 => k_asm); (case k4_40 => k_asm); (case k5_40 => k_asm); (case k6_40 => k_is); (case k7_40 => k_is); (case k8_40 => k_room); (case k9_40 => first | exact BindsTo.of_eq rfl | exact binds_K (by k_in) rfl (by k_is) rfl rfl rfl); (case c5_40 => decide); (case kB_40 => exact locs rfl); (case c2_40 => exact rfl); (case c3_40 => exact rfl); (case c4_40 => exact rfl); k_whole; intro g' L' h' FG' F' N' B' X' T' kp lL; have lLs := lt_small lL; (try k_lt lLs); (try dsimp only); (try k_lift B'))))
  k_with "my kf" => ((fail_if_success k_extra "z19"); (k_extra "my kclose"))
  k_with "my pyIter bytes" => ((fail_if_success k_extra "z19"); ((k_here; (with_reducible show wpAny _ _ (pyIter (Value.bytes _ _)) (fun it s₂ => LoopAtV _ _ _ _ _ _ _ _ _ it s₂) _ _); first | ((rename Fr _ _ _ _ => lF'); (rename News _ _ _ _ => lN'); (with_unfolding_all refine iter_bytesUnr (by rfl) lF' lN' (KBa.ints_make (by assumption)) ?_); clear lF' lN'; intro i' l1) | k_bytesUnr)))
  trivial
theorem none_len {x : Int} {P : Prop} (h : (([x] : List Int).length : Int) = 0) : P := by simp at h
set_option maxHeartbeats 2000000 in
theorem num_dig (w : World) (p : Program) (loose : List Str) (mean : ExcName → Option Value) (mg mb : Str → Option Value) (x : Int) (t : Tok) (h0 : 48 ≤ x) (h1 : x ≤ 57) :
    Cr w p loose mean mg mb 4 76 [.bytes (byteArr [x]) t] [] (fun v l => (∃ t', v = .int (x - 48) t') ∧ l = []) := _root_.id <| by
  have hx : KBa.In [x] := in1 (by omega) (by omega)
  intro rest dis dp un gd cn cs a ccd cl outer A₀ base h₀ L m s Q E B F X N Tp hk hd hu hr
  revert h0 h1 hx dis B F X N Tp hk hd hu hr
  revert w p loose mean mg mb x t rest dp un gd cn cs a ccd cl outer A₀ base h₀ L m s Q E
  k_extra "my d14"; intros w p loose mean mg mb x t rest dp un gd cn cs; k_extra "my of"
  k_extra "my d8"; intros a ccd cl outer A₀ base h₀ L; k_extra "my of"
  k_extra "my d4"; intros m s Q E; k_extra "my of"
  intros h0 h1 hx dis B F X N Tp hk hd hu hr
  haveI mk : Mark := Mark.mk
  refine wpAny_call ?_
  k_dflt k_extra "my e0"
  k_extra "my kclose"
  k_extra "my ks2"
  · exact none_len (by assumption)
  · refine' hr _ _ ⟨⟨_, congrArg (fun z => Value.int z _) (by omega : (10 * 0 + x - 48 : Int) = x - 48)⟩, rfl⟩ ?ap _ _ ?ff ?nn
    case ff => assumption
    case nn =>
      refine kept_joinR (by assumption) (by assumption) (by assumption) (by assumption) ?_
      try simp only [List.cons_append, List.nil_append]
      kcf_all
    case ap =>
      refine apart_app ?_ (kept_apart (by assumption) (by assumption) ?_)
      · repeat' (first | exact List.forall_mem_nil _ | (refine List.forall_mem_cons.mpr ⟨?_, ?_⟩))
        all_goals k_ne
      · try simp only [List.cons_append, List.nil_append]
        kcf_all
    all_goals first | assumption | omega
set_option maxHeartbeats 2000000 in
theorem num_nil (w : World) (p : Program) (loose : List Str) (mean : ExcName → Option Value) (mg mb : Str → Option Value) (t : Tok) :
    Cr w p loose mean mg mb 4 76 [.bytes #[] t] [] (fun v l => v = .none ∧ l = []) := _root_.id <| by
  intro rest dis dp un gd cn cs a ccd cl outer A₀ base h₀ L m s Q E B F X N Tp hk hd hu hr
  revert dis B F X N Tp hk hd hu hr
  revert w p loose mean mg mb t rest dp un gd cn cs a ccd cl outer A₀ base h₀ L m s Q E
  k_extra "my d14"; intros w p loose mean mg mb t rest dp un gd cn cs a; k_extra "my of"
  k_extra "my d8"; intros ccd cl outer A₀ base h₀ L m; k_extra "my of"
  k_extra "my d3"; intros s Q E; k_extra "my of"
  intros dis B F X N Tp hk hd hu hr
  haveI mk : Mark := Mark.mk
  refine wpAny_call ?_
  k_dflt k_extra "my e0"
  k_extra "my kclose"
  k_extra "my ks2"
  refine' hr _ _ ⟨rfl, rfl⟩ ?ap _ _ ?ff ?nn
  case ff => assumption
  case nn =>
    refine kept_joinR (by assumption) (by assumption) (by assumption) (by assumption) ?_
    try simp only [List.cons_append, List.nil_append]
    kcf_all
  case ap =>
    refine apart_app ?_ (kept_apart (by assumption) (by assumption) ?_)
    · repeat' (first | exact List.forall_mem_nil _ | (refine List.forall_mem_cons.mpr ⟨?_, ?_⟩))
      all_goals k_ne
    · try simp only [List.cons_append, List.nil_append]
      kcf_all
  all_goals first | assumption | omega
set_option maxHeartbeats 2000000 in
theorem num_x (w : World) (p : Program) (loose : List Str) (mean : ExcName → Option Value) (mg mb : Str → Option Value) (t : Tok) :
    Cr w p loose mean mg mb 4 76 [.bytes #[120] t] [] (fun v l => v = .none ∧ l = []) := _root_.id <| by
  intro rest dis dp un gd cn cs a ccd cl outer A₀ base h₀ L m s Q E B F X N Tp hk hd hu hr
  revert dis B F X N Tp hk hd hu hr
  revert w p loose mean mg mb t rest dp un gd cn cs a ccd cl outer A₀ base h₀ L m s Q E
  k_extra "my d14"; intros w p loose mean mg mb t rest dp un gd cn cs a; k_extra "my of"
  k_extra "my d8"; intros ccd cl outer A₀ base h₀ L m; k_extra "my of"
  k_extra "my d3"; intros s Q E; k_extra "my of"
  intros dis B F X N Tp hk hd hu hr
  haveI mk : Mark := Mark.mk
  refine wpAny_call ?_
  k_dflt k_extra "my e0"
  k_extra "my kclose"
  k_extra "my ks2"
  refine' hr _ _ ⟨rfl, rfl⟩ ?ap _ _ ?ff ?nn
  case ff => assumption
  case nn =>
    refine kept_joinR (by assumption) (by assumption) (by assumption) (by assumption) ?_
    try simp only [List.cons_append, List.nil_append]
    kcf_all
  case ap =>
    refine apart_app ?_ (kept_apart (by assumption) (by assumption) ?_)
    · repeat' (first | exact List.forall_mem_nil _ | (refine List.forall_mem_cons.mpr ⟨?_, ?_⟩))
      all_goals k_ne
    · try simp only [List.cons_append, List.nil_append]
      kcf_all
  all_goals first | assumption | omega
set_option maxHeartbeats 2000000 in
theorem num_m1 (w : World) (p : Program) (loose : List Str) (mean : ExcName → Option Value) (mg mb : Str → Option Value) (t : Tok) :
    Cr w p loose mean mg mb 4 76 [.bytes #[45, 49] t] [] (fun v l => v = .none ∧ l = []) := _root_.id <| by
  intro rest dis dp un gd cn cs a ccd cl outer A₀ base h₀ L m s Q E B F X N Tp hk hd hu hr
  revert dis B F X N Tp hk hd hu hr
  revert w p loose mean mg mb t rest dp un gd cn cs a ccd cl outer A₀ base h₀ L m s Q E
  k_extra "my d14"; intros w p loose mean mg mb t rest dp un gd cn cs a; k_extra "my of"
  k_extra "my d8"; intros ccd cl outer A₀ base h₀ L m; k_extra "my of"
  k_extra "my d3"; intros s Q E; k_extra "my of"
  intros dis B F X N Tp hk hd hu hr
  haveI mk : Mark := Mark.mk
  refine wpAny_call ?_
  k_dflt k_extra "my e0"
  k_extra "my kclose"
  k_extra "my ks2"
  refine' hr _ _ ⟨rfl, rfl⟩ ?ap _ _ ?ff ?nn
  case ff => assumption
  case nn =>
    refine kept_joinR (by assumption) (by assumption) (by assumption) (by assumption) ?_
    try simp only [List.cons_append, List.nil_append]
    kcf_all
  case ap =>
    refine apart_app ?_ (kept_apart (by assumption) (by assumption) ?_)
    · repeat' (first | exact List.forall_mem_nil _ | (refine List.forall_mem_cons.mpr ⟨?_, ?_⟩))
      all_goals k_ne
    · try simp only [List.cons_append, List.nil_append]
      kcf_all
  all_goals first | assumption | omega
end
section
noncomputable abbrev inOf {x : Int} (_ : KBa.In [x]) : Int := x
noncomputable def bt (x : Int) (i : Nat) : Bool := Builtin.bitAnd (([x].getD (Int.toNat 0) 0).fdiv (2 ^ ((0 : Int) + (i : Int)).toNat)) 1 == 1
theorem kw_WOct_0 : True := by
  k_with "z19" => skip
  k_with "my e1" => ((fail_if_success k_extra "z20"); ((refine' code_defCR dis ?k1_43 ?k2_43 ?k3_43 ?k4_43 ?k5_43 ?kA_43 ?kF_43 ?kK_43 ?k6_43 ?k7_43 ?k8_43 ?k9_43 ?kB_43 ?kD_43 ?_ ?c2_43 ?c3_43 ?c4_43; (case kA_43 => exact rfl); (case kF_43 => exact rfl); (case kK_43 => first | assumption | exact rfl); (case k1_43 => k_asm); (case k2_43 => k_asm); (case k3_43 => k_asm); (case k4_43 => k_asm); (case k5_43 => k_asm); (case k6_43 => k_is); (case k7_43 => k_is); (case k8_43 => k_room); (case k9_43 => first | exact BindsTo.of_eq rfl | exact binds_K (by k_in) rfl (by k_is) rfl rfl rfl); (case kB_43 => exact rfl); (case kD_43 => decide +kernel); (case c2_43 => exact rfl); (case c3_43 => exact rfl); (case c4_43 => exact rfl); k_whole; intro g' L' h' tk' cells' FG' F' N' Y' B' X' T' kp lL; have lLs := lt_small lL; (try k_lt lLs); k_cells Y'; (try simp only [List.cons_append, List.nil_append] at N'); (try dsimp only); (try k_lift B'); (try k_fold))))
  k_with "my e0" => ((fail_if_success k_extra "z20"); ((refine' code_defR dis ?k1_44 ?k2_44 ?k3_44 ?k4_44 ?k5_44 ?kA_44 ?kF_44 ?kK_44 ?k6_44 ?k7_44 ?k8_44 ?k9_44 ?kB_44 ?_ ?c2_44 ?c3_44 ?c4_44 ?c5_44; (case kA_44 => exact rfl); (case kF_44 => exact rfl); (case kK_44 => first | assumption | exact rfl); (case k1_44 => k_asm); (case k2_44 => k_asm); (case k3_44 => k_asm); (case k4_44 => k_asm); (case k5_44 => k_asm); (case k6_44 => k_is); (case k7_44 => k_is); (case k8_44 => k_room); (case k9_44 => first | exact BindsTo.of_eq rfl | exact binds_K (by k_in) rfl (by k_is) rfl rfl rfl); (case c5_44 => decide); (case kB_44 => exact locs rfl); (case c2_44 => exact rfl); (case c3_44 => exact rfl); (case c4_44 => exact rfl); k_whole; intro g' L' h' FG' F' N' B' X' T' kp lL; have lLs := lt_small lL; (try k_lt lLs); (try dsimp only); (try k_lift B'); (try k_fold))))
  trivial
theorem bt4 {ys : List Value} {x : Int} (hl : ys.length = 4) (h : ∀ i y, ys[i]? = some y → y = Value.bool (bt x i)) : ys = [.bool (bt x 0), .bool (bt x 1), .bool (bt x 2), .bool (bt x 3)] := by
  match ys, hl with
  | [a, b, c, d], _ =>
    rw [h 0 a rfl, h 1 b rfl, h 2 c rfl, h 3 d rfl]
theorem bt1 {ys : List Value} {x : Int} (hl : ys.length = 1) (h : ∀ i y, ys[i]? = some y → y = Value.bool (bt x i)) : ys = [.bool (bt x 0)] := by
  match ys, hl with
  | [a], _ => rw [h 0 a rfl]
theorem kw_WOct_1 : True := by
  k_with "my CompSrc" => ((fail_if_success k_extra "z20"); ((k_here; k_dflt (refine LCg.CompSrc.range (by rfl) (by k_asm) (by k_asm) (by assumption) (by decide) (by rfl) (by exact Nat.le_of_ble_eq_true rfl) ?_; intro g'; (refine' cx_range (fun i y => y = Value.bool (bt (inOf ‹KBa.In [_]›) i)) (fun i' t' I' oI' C' oC' D' m' ys' h' tk' E' hi' hC' hx' F' N' off' ne' => ?_) ?_); (all_goals (try (simp only [LCg.Off3, and_true] at off'))); kcf_last))))
  k_with "my CompEnd" => ((fail_if_success k_extra "z20"); ((k_here; k_dflt (refine cx_end (by assumption) (by assumption) (by kcf_all) (by first | assumption | (simp only [LCg.Off3, and_true]; done) | (simp only [LCg.Off3, and_true]; assumption)) (by first | lcg_src | assumption | exact True.intro) (by rfl)))))
  trivial
set_option maxHeartbeats 2000000 in
theorem obits4 (w : World) (p : Program) (loose : List Str) (mean : ExcName → Option Value) (mg mb : Str → Option Value) (x : Int) (t t2 : Tok) (h0 : 64 ≤ x) (h1 : x ≤ 126) :
    Cr w p loose mean mg mb 4 128 [.bytes (byteArr [x]) t, .int 4 t2] [] (fun v l => ∃ q k, v = .ref q ∧ l = [(q, W.listOf #[Value.bool (bt x 0), .bool (bt x 1), .bool (bt x 2), .bool (bt x 3)] k)]) := _root_.id <| by
  have hx : KBa.In [x] := in1 (by omega) (by omega)
  intro rest dis dp un gd cn cs a ccd cl outer A₀ base h₀ L m s Q E B F X N Tp hk hd hu hr
  first
  | (refine wpAny_call ?_; k_dflt k_extra "my e0")
  | (refine wpAny_call ?_; k_dflt k_extra "my e1")
  k_steps
  all_goals first
  | (exfalso; simp at *; done)
  | (exfalso; simp at *; omega)
  | skip
  have e := bt4 (by assumption) (by assumption)
  subst e
  refine' hr _ _ ⟨_, _, rfl, rfl⟩ ?ap _ _ ?ff ?nn
  case ff => assumption
  case nn =>
    refine kept_joinR (by assumption) (by assumption) (by assumption) (by assumption) ?_
    try simp only [List.cons_append, List.nil_append]
    kcf_all
  case ap =>
    refine apart_app ?_ (kept_apart (by assumption) (by assumption) ?_)
    · repeat' (first | exact List.forall_mem_nil _ | (refine List.forall_mem_cons.mpr ⟨?_, ?_⟩))
      all_goals k_ne
    · try simp only [List.cons_append, List.nil_append]
      kcf_all
  all_goals first | assumption | omega
set_option maxHeartbeats 2000000 in
theorem obits1 (w : World) (p : Program) (loose : List Str) (mean : ExcName → Option Value) (mg mb : Str → Option Value) (x : Int) (t t2 : Tok) (h0 : 64 ≤ x) (h1 : x ≤ 126) :
    Cr w p loose mean mg mb 4 128 [.bytes (byteArr [x]) t, .int 1 t2] [] (fun v l => ∃ q k, v = .ref q ∧ l = [(q, W.listOf #[Value.bool (bt x 0)] k)]) := _root_.id <| by
  have hx : KBa.In [x] := in1 (by omega) (by omega)
  intro rest dis dp un gd cn cs a ccd cl outer A₀ base h₀ L m s Q E B F X N Tp hk hd hu hr
  first
  | (refine wpAny_call ?_; k_dflt k_extra "my e0")
  | (refine wpAny_call ?_; k_dflt k_extra "my e1")
  k_steps
  all_goals first
  | (exfalso; simp at *; done)
  | (exfalso; simp at *; omega)
  | skip
  have e := bt1 (by assumption) (by assumption)
  subst e
  refine' hr _ _ ⟨_, _, rfl, rfl⟩ ?ap _ _ ?ff ?nn
  case ff => assumption
  case nn =>
    refine kept_joinR (by assumption) (by assumption) (by assumption) (by assumption) ?_
    try simp only [List.cons_append, List.nil_append]
    kcf_all
  case ap =>
    refine apart_app ?_ (kept_apart (by assumption) (by assumption) ?_)
    · repeat' (first | exact List.forall_mem_nil _ | (refine List.forall_mem_cons.mpr ⟨?_, ?_⟩))
      all_goals k_ne
    · try simp only [List.cons_append, List.nil_append]
      kcf_all
  all_goals first | assumption | omega
set_option maxHeartbeats 2000000 in
theorem obits_q (w : World) (p : Program) (loose : List Str) (mean : ExcName → Option Value) (mg mb : Str → Option Value) (t : Tok) (m : Int) (t2 : Tok) :
    Cr w p loose mean mg mb 4 128 [.bytes #[63] t, .int m t2] [] (fun v l => v = .none ∧ l = []) := _root_.id <| by
  intro rest dis dp un gd cn cs a ccd cl outer A₀ base h₀ L m s Q E B F X N Tp hk hd hu hr
  first
  | (refine wpAny_call ?_; k_dflt k_extra "my e0")
  | (refine wpAny_call ?_; k_dflt k_extra "my e1")
  k_steps
  refine' hr _ _ ⟨rfl, rfl⟩ ?ap _ _ ?ff ?nn
  case ff => assumption
  case nn =>
    refine kept_joinR (by assumption) (by assumption) (by assumption) (by assumption) ?_
    try simp only [List.cons_append, List.nil_append]
    kcf_all
  case ap =>
    refine apart_app ?_ (kept_apart (by assumption) (by assumption) ?_)
    · repeat' (first | exact List.forall_mem_nil _ | (refine List.forall_mem_cons.mpr ⟨?_, ?_⟩))
      all_goals k_ne
    · try simp only [List.cons_append, List.nil_append]
      kcf_all
  all_goals first | assumption | omega
set_option maxHeartbeats 2000000 in
theorem obits_d (w : World) (p : Program) (loose : List Str) (mean : ExcName → Option Value) (mg mb : Str → Option Value) (t : Tok) (m : Int) (t2 : Tok) :
    Cr w p loose mean mg mb 4 128 [.bytes #[127] t, .int m t2] [] (fun v l => v = .none ∧ l = []) := _root_.id <| by
  intro rest dis dp un gd cn cs a ccd cl outer A₀ base h₀ L m s Q E B F X N Tp hk hd hu hr
  first
  | (refine wpAny_call ?_; k_dflt k_extra "my e0")
  | (refine wpAny_call ?_; k_dflt k_extra "my e1")
  k_steps
  refine' hr _ _ ⟨rfl, rfl⟩ ?ap _ _ ?ff ?nn
  case ff => assumption
  case nn =>
    refine kept_joinR (by assumption) (by assumption) (by assumption) (by assumption) ?_
    try simp only [List.cons_append, List.nil_append]
    kcf_all
  case ap =>
    refine apart_app ?_ (kept_apart (by assumption) (by assumption) ?_)
    · repeat' (first | exact List.forall_mem_nil _ | (refine List.forall_mem_cons.mpr ⟨?_, ?_⟩))
      all_goals k_ne
    · try simp only [List.cons_append, List.nil_append]
      kcf_all
  all_goals first | assumption | omega
end
section
open PySem.Builtin PySem.Builtin.Bytes
theorem slot_bytes_join : Slot "bytes" "join" "bytes.join" :=
  .of (owner := "bytes") (n := "join") (by rw [typeLookup_type, builtinLookup_eq_fast]; kernel_rfl) (by decide +kernel) (by decide +kernel) (by decide +kernel)
    (by first | exact .inl (by decide +kernel) | exact .inr (by decide +kernel)) (by rw [isSubtype_type]; kernel_rfl)
theorem type_bytes_join : typeOf (.builtin "bytes.join") = pure (.type "method_descriptor") := by show builtinType _ = _; rw [builtinType_eq_fast]; kernel_rfl
theorem entry_bytes_join : entryFor table "bytes.join" = some Builtin.«bytes.join» := entryFor_of_tree (by kernel_rfl)
open PySem.W.FB in
theorem args_bytes_join_2 (a b : Value) : argsOk "bytes.join" ⟨[a, b], []⟩ := by
  unfold argsOk; rw [signature?_of (id := "bytes.join") (n := ['n', 'i', 'o', 'j']) (o := ['s', 'e', 't', 'y', 'b']) (by kernel_rfl) owner_bytes]; kernel_rfl
noncomputable def bys (l : List (Array UInt8 × Tok)) : List Value := l.map fun p => .bytes p.1 p.2
section
variable {M : Model} {prog : Program} {w : World} {A : Around} {E : Value → Shared → Prop} {s : Shared} {Q : Value → Shared → Prop}
theorem look_buffer : typeLookup (.type "bytes") "__buffer__" = pure (some (.builtin "bytes.__buffer__")) := by rw [typeLookup_type, builtinLookup_eq_fast]; kernel_rfl
theorem look_release : typeLookup (.type "bytes") "__release_buffer__" = pure none := by rw [typeLookup_type, builtinLookup_eq_fast]; kernel_rfl
theorem bytes_sub : isSubtype (.type "bytes") (.type "bytes") = pure true := by rw [isSubtype_type]; kernel_rfl
theorem spec_buffer (b : Array UInt8) (t : Tok) : specialOf (.bytes b t) "__buffer__" = pure (some (.builtin "bytes.__buffer__")) := by
  show (typeLookup (.type "bytes") "__buffer__") = _
  exact look_buffer
theorem spec_release (b : Array UInt8) (t : Tok) : specialOf (.bytes b t) "__release_buffer__" = pure none := by
  show (typeLookup (.type "bytes") "__release_buffer__") = _
  exact look_release
theorem slot_own (b : Array UInt8) (t : Tok) : slotIsOwn (.bytes b t) "__buffer__" = pure true := by
  unfold slotIsOwn
  rw [spec_buffer]
  show (if (!("bytes.__buffer__".endsWith ("." ++ "__buffer__"))) = true then pure false else isInstance (.bytes b t) (.type (("bytes.__buffer__".dropRight ("__buffer__".length + 1))))) = _
  rw [show ("bytes.__buffer__".endsWith ("." ++ "__buffer__")) = true by decide +kernel, show ("bytes.__buffer__".dropRight ("__buffer__".length + 1)) = "bytes" by decide +kernel]
  exact bytes_sub
theorem own_release (b : Array UInt8) (t : Tok) : ownRelease (.bytes b t) = pure false := by
  unfold ownRelease slotIsOwn
  rw [spec_release]
  rfl
theorem buffer_is (id : String) (b : Array UInt8) (t : Tok) (full : Bool) : buffer? id (.bytes b t) full = pure (some b) := by
  unfold buffer?
  rw [spec_buffer, slot_own, own_release]
  rfl
theorem take_bytes (id : String) (b : Array UInt8) (t : Tok) : takeBufferQuiet? id (.bytes b t) 0 = pure (some (b, none)) := by
  unfold takeBufferQuiet? takeBuffer?
  rw [spec_buffer, slot_own, buffer_is]
  rfl
theorem forIn_steps {β : Type} (f : Nat → β → Sem (ForInStep β)) (b : Nat → β) {Q : β → Shared → Prop} : ∀ (n k : Nat), (∀ i, k ≤ i → i < k + n → ∀ Q' : ForInStep β → Shared → Prop, Q' (.yield (b (i + 1))) s → wpAny M A (f i (b i)) Q' E s) → Q (b (k + n)) s → wpAny M A (forIn (List.range' k n) (b k) f) Q E s
  | 0, k, _, h => wpAny_pure h
  | n + 1, k, hf, h => by
    show wpAny M A (forIn (k :: List.range' (k + 1) n) (b k) f) Q E s
    rw [List.forIn_cons]
    refine wpAny_bind (hf k (Nat.le_refl _) (by omega) _ ?_)
    exact forIn_steps f b n (k + 1) (fun i h1 h2 => hf i (by omega) (by omega)) (by rw [show k + 1 + n = k + (n + 1) by omega]; exact h)
end
section
variable {prog : Program} {w : World} {A : Around} {E : Value → Shared → Prop} {s : Shared} {Q : PySem.Fin → Shared → Prop}
theorem wp_letGo {M : Model} : ∀ (vs keep : List Value) {Q : Unit → Shared → Prop}, Q () s → wpAny M A (letGo vs keep) Q E s
  | [], _, _, h => wpAny_pure h
  | _ :: r, keep, _, h => by
    unfold letGo
    exact wpAny_bind (wpAny_holding (wpAny_point (wp_letGo r keep h)))
theorem wp_joinLetGo {M : Model} : ∀ (its : List (Array UInt8 × Tok)) (keep : List Value) {Q : Unit → Shared → Prop}, Q () s → wpAny M A (joinLetGo (its.map fun p => (Value.bytes p.1 p.2, (none : Option Value))) keep) Q E s
  | [], _, _, h => by unfold joinLetGo; exact wpAny_pure h
  | _ :: r, keep, _, h => by
    rw [List.map_cons]
    unfold joinLetGo
    dsimp only
    exact wpAny_bind (wp_letGo _ _ (wp_joinLetGo r keep h))
theorem no_heap (its : List (Array UInt8 × Tok)) : ((its.map fun p => (Value.bytes p.1 p.2, (none : Option Value))).any fun x => x.1.onHeap) = false := by
  induction its with
  | nil => rfl
  | cons p l ih => simp [Value.onHeap]
theorem bytes_joinM {l : Addr} {o : Obj} {n : Nat} {sep : Array UInt8} {t : Tok} {its : List (Array UInt8 × Tok)} (ho : s.heap.get? l = some o) (hc : o.cls = .type "list") (hd : o.data = .seq (bys its).toArray n) (h1 : its.length ≠ 1)
    (hsz : tooLong (((its.map (·.1)).toArray).foldl (· + ·.size) (sep.size * ((its.map (·.1)).toArray.size - 1))) = false) (hb : (joined sep (its.map (·.1))).size ≤ sizeLine)
    (h : ∀ t' k, Q (.done (.ret (.bytes (joined sep (its.map (·.1))) t'))) { s with toks := k }) : wpAny (model prog w) A («bytes.join» ⟨[.bytes sep t, .ref l], []⟩) Q E s := by
  unfold «bytes.join» joinM
  dsimp only
  refine wpAny_bind (wpAny_of_eq (a := (Value.bytes sep t, Value.ref l)) rfl ?_)
  dsimp only
  rw [if_pos (by rfl)]
  refine wpAny_bind (wpAny_bind (wpAny_typeOf (T := "list") ⟨o, ho, hc⟩ ?_))
  rw [if_pos (by rfl)]
  refine wpAny_pure ?_
  refine wpAny_bind (wpAny_seqItems ho hd ?_)
  dsimp only
  rw [if_pos (by rfl)]
  have key : ∀ (F : Sem Fin), wpAny (model prog w) A F Q E s → ∀ (G : Value → Sem Fin), wpAny (model prog w) A (match (bys its).toArray with | #[x] => G x | _ => F) Q E s := by
    intro F hF G
    match its, h1 with
    | [], _ => exact hF
    | [p], h1 => exact absurd rfl h1
    | p :: q :: r, _ => exact hF
  refine key _ ?_ _
  have hlen : (bys its).toArray.size = its.length := by simp [bys]
  refine wpAny_bind ?_
  rw [Std.Legacy.Range.forIn_eq_forIn_range']
  have e0 : (#[], []) = (fun i => (((its.map (·.1)).take i).toArray, (its.take i).map fun p => (Value.bytes p.1 p.2, (none : Option Value)))) 0 := by simp
  rw [e0]
  refine forIn_steps _ (fun i => (((its.map (·.1)).take i).toArray, (its.take i).map fun p => (Value.bytes p.1 p.2, (none : Option Value)))) _ 0 (fun i _ hi Q' hQ' => ?_) ?_
  · have hi' : i < its.length := by
      have hz : [:(bys its).toArray.size].size = its.length := by simp [Std.Legacy.Range.size, hlen]
      omega
    refine wpAny_bind (wpAny_seqItems ho hd ?_)
    dsimp only
    have nh : ((Kind.bytes == Kind.bytearray || (List.map (fun (p : Array UInt8 × Tok) => (Value.bytes p.fst p.snd, (none : Option Value))) (List.take i its)).any fun x => x.fst.onHeap) = true) ↔ False := by
      rw [no_heap]; decide
    rw [if_neg nh.mp]
    have eg : (bys its).toArray.getD i Value.none = .bytes its[i].1 its[i].2 := by simp [bys, hi']
    rw [eg]
    refine wpAny_bind (wpAny_holding (wpAny_of_eq (take_bytes _ _ _) ?_))
    dsimp only
    refine wpAny_bind (wpAny_seqItems ho hd ?_)
    dsimp only
    rw [if_neg (by simp)]
    refine wpAny_pure ?_
    have e1 : ((its.map (·.1)).take i).toArray.push its[i].1 = ((its.map (·.1)).take (i + 1)).toArray := by
      rw [List.push_toArray, List.take_succ, List.getElem?_map, List.getElem?_eq_getElem hi']; rfl
    have e2 : (its.take i).map (fun p => (Value.bytes p.1 p.2, (none : Option Value))) ++ [(Value.bytes its[i].1 its[i].2, none)] = (its.take (i + 1)).map fun p => (Value.bytes p.1 p.2, (none : Option Value)) := by
      rw [List.take_succ, List.getElem?_eq_getElem hi', List.map_append]; rfl
    rw [e1, e2]
    exact hQ'
  · have hz : 0 + [:(bys its).toArray.size].size = its.length := by simp [Std.Legacy.Range.size, hlen]
    rw [hz]
    dsimp only
    have t1 : (its.map (·.1)).take its.length = its.map (·.1) := by rw [List.take_of_length_le]; simp
    have t2 : its.take its.length = its := by simp
    rw [t1, t2]
    refine wpAny_bind (wpAny_of_eq (a := sep) rfl ?_)
    rw [hsz]
    rw [if_neg (by decide)]
    refine wpAny_bind (wpAny_mkBytes ?_ hb)
    refine wpAny_bind (wpAny_holding (wpAny_point ?_))
    refine wpAny_bind (wp_joinLetGo its _ ?_)
    exact wpAny_pure (h _ _)
theorem foldl_size (l : List (Array UInt8)) : ∀ k, l.foldl (fun (n : Nat) (a : Array UInt8) => n + a.size) k = k + (l.map Array.size).sum := by
  induction l with
  | nil => intro k; rfl
  | cons a l ih => intro k; rw [List.foldl_cons, ih, List.map_cons, List.sum_cons]; omega
theorem sum_le (c : Nat) : ∀ l : List (Array UInt8), (∀ a ∈ l, a.size ≤ c) → (l.map Array.size).sum ≤ c * l.length
  | [], _ => Nat.zero_le _
  | a :: l, h => by
    rw [List.map_cons, List.sum_cons, List.length_cons, Nat.mul_add, Nat.mul_one]
    have := h a (.head _)
    have := sum_le c l fun b hb => h b (.tail _ hb)
    omega
theorem joined_size (sep : Array UInt8) (l : List (Array UInt8)) : (joined sep l).size ≤ (l.map Array.size).sum + sep.size * l.length := by
  unfold joined
  suffices ∀ (l : List (Array UInt8)) (k : Nat) (out : Array UInt8), ((l.zipIdx k).foldl (fun (out : Array UInt8) (x : Array UInt8 × Nat) => (if x.2 > 0 then out ++ sep else out) ++ x.1) out).size ≤ out.size + (l.map Array.size).sum + sep.size * l.length by
    have h := this l 0 #[]
    simpa using h
  intro l
  induction l with
  | nil => intro k out; simp
  | cons a l ih =>
    intro k out
    rw [List.zipIdx_cons, List.foldl_cons]
    refine Nat.le_trans (ih _ _) ?_
    rw [List.map_cons, List.sum_cons, List.length_cons, Nat.mul_add, Nat.mul_one]
    split <;> simp only [Array.size_append] <;> omega
noncomputable def Small (sep : Array UInt8) (its : List (Array UInt8 × Tok)) : Prop := sep.size ≤ 1 ∧ its.length ≤ 64 ∧ ∀ p ∈ its, p.1.size ≤ 64
theorem small_fold {sep : Array UInt8} {its : List (Array UInt8 × Tok)} (h : Small sep its) : tooLong (((its.map (·.1)).toArray).foldl (· + ·.size) (sep.size * ((its.map (·.1)).toArray.size - 1))) = false := by
  obtain ⟨h1, h2, h3⟩ := h
  have e : ((its.map (·.1)).toArray).foldl (fun (n : Nat) (a : Array UInt8) => n + a.size) (sep.size * ((its.map (·.1)).toArray.size - 1)) = sep.size * ((its.map (·.1)).toArray.size - 1) + ((its.map (·.1)).map Array.size).sum := by
    rw [List.foldl_toArray]; exact foldl_size _ _
  unfold tooLong
  rw [e]
  have a := sum_le 64 (its.map (·.1)) (fun a ha => by obtain ⟨p, hp, rfl⟩ := List.mem_map.mp ha; exact h3 p hp)
  rw [List.length_map] at a
  have b : sep.size * ((its.map (·.1)).toArray.size - 1) ≤ 1 * 64 := Nat.mul_le_mul h1 (by simp; omega)
  have c : 64 * its.length ≤ 64 * 64 := Nat.mul_le_mul_left _ h2
  refine decide_eq_false ?_
  have d : sizeLine = 16777216 := by decide
  omega
theorem small_joined {sep : Array UInt8} {its : List (Array UInt8 × Tok)} (h : Small sep its) : (joined sep (its.map (·.1))).size ≤ sizeLine := by
  obtain ⟨h1, h2, h3⟩ := h
  have a := sum_le 64 (its.map (·.1)) (fun a ha => by obtain ⟨p, hp, rfl⟩ := List.mem_map.mp ha; exact h3 p hp)
  have z := joined_size sep (its.map (·.1))
  rw [List.length_map] at a z
  have b : sep.size * its.length ≤ 1 * 64 := Nat.mul_le_mul h1 h2
  have c : 64 * its.length ≤ 64 * 64 := Nat.mul_le_mul_left _ h2
  have d : sizeLine = 16777216 := by decide
  omega
end
section
variable {prog : Program} {w : World} {A : Around} {E : Value → Shared → Prop} {s : Shared} {Q : Value → Shared → Prop}
theorem bytes_join {h₀ : Heap} {L : Addr} {m : Str → Option Value} {news : Led} {l : Addr} {sep : Array UInt8} {t : Tok} {vs : List Value} {k : Nat} (its : List (Array UInt8 × Tok)) (F : Fr h₀ L s.heap m) (N : News h₀ L s.heap news)
    (hl : (l, W.listOf vs.toArray k) ∈ news) (hv : vs = bys its) (h1 : its.length ≠ 1) (hs : Small sep its)
    (h : ∀ t' tk, Q (.bytes (joined sep (its.map (·.1))) t') { s with toks := tk }) : wpAny (model prog w) A (call (.builtin "bytes.join") [.bytes sep t, .ref l]) Q E s := by
  subst hv
  refine wpAny_call (codeAny_call_builtin slot_bytes_join.plain entry_bytes_join (slot_bytes_join.check _ _ _ _ _ _ _ _ (typeIs_bytes _ _ _) (args_bytes_join_2 _ _) ?_))
  exact bytes_joinM (N _ hl).1 rfl rfl h1 (small_fold hs) (small_joined hs) fun t' tk => h t' tk
end
section
variable {prog : Program} {w : World} {A : Around} {E : Value → Shared → Prop} {s : Shared}
theorem bytes_joinM1 {Q : PySem.Fin → Shared → Prop} {l : Addr} {o : Obj} {n : Nat} {sep b : Array UInt8} {t u : Tok} (ho : s.heap.get? l = some o) (hc : o.cls = .type "list") (hd : o.data = .seq #[.bytes b u] n)
    (h : Q (.done (.ret (.bytes b u))) s) : wpAny (model prog w) A («bytes.join» ⟨[.bytes sep t, .ref l], []⟩) Q E s := by
  unfold «bytes.join» joinM
  dsimp only
  refine wpAny_bind (wpAny_of_eq (a := (Value.bytes sep t, Value.ref l)) rfl ?_)
  dsimp only
  rw [if_pos (by rfl)]
  refine wpAny_bind (wpAny_bind (wpAny_typeOf (T := "list") ⟨o, ho, hc⟩ ?_))
  rw [if_pos (by rfl)]
  refine wpAny_pure ?_
  refine wpAny_bind (wpAny_seqItems ho hd ?_)
  dsimp only
  rw [if_pos (by rfl)]
  refine wpAny_bind (wpAny_of_eq (a := Value.type "bytes") rfl ?_)
  rw [if_pos (by rfl)]
  exact wpAny_bind (wpAny_rule (wpAny_pure h))
theorem bytes_join1 {Q : Value → Shared → Prop} {h₀ : Heap} {L : Addr} {m : Str → Option Value} {news : Led} {l : Addr} {sep b : Array UInt8} {t u : Tok} {k : Nat} (F : Fr h₀ L s.heap m) (N : News h₀ L s.heap news)
    (hl : (l, W.listOf #[.bytes b u] k) ∈ news) (h : Q (.bytes b u) s) : wpAny (model prog w) A (call (.builtin "bytes.join") [.bytes sep t, .ref l]) Q E s := by
  refine wpAny_call (codeAny_call_builtin slot_bytes_join.plain entry_bytes_join (slot_bytes_join.check _ _ _ _ _ _ _ _ (typeIs_bytes _ _ _) (args_bytes_join_2 _ _) ?_))
  exact bytes_joinM1 (N _ hl).1 rfl rfl h
end
end
section
open PySem.Builtin PySem.Builtin.Bytes
noncomputable def idx (c : UInt8) : Nat → List UInt8 → List Nat
  | _, [] => []
  | k, x :: r => if x = c then k :: idx c (k + 1) r else idx c (k + 1) r
noncomputable def jl (c : UInt8) : List (List UInt8) → List UInt8
  | [] => []
  | [a] => a
  | a :: b :: r => a ++ c :: jl c (b :: r)
theorem idx_app (c : UInt8) : ∀ (a r : List UInt8) (k : Nat), c ∉ a → idx c k (a ++ r) = idx c (k + a.length) r
  | [], _, _, _ => rfl
  | x :: a, r, k, h => by
    have hx : ¬ x = c := fun e => h (by rw [e]; exact .head _)
    show (if x = c then k :: idx c (k + 1) (a ++ r) else idx c (k + 1) (a ++ r)) = _
    rw [if_neg hx, idx_app c a r (k + 1) fun m => h (.tail _ m), List.length_cons]
    congr 1; omega
theorem idx_hit (c : UInt8) (r : List UInt8) (k : Nat) : idx c k (c :: r) = k :: idx c (k + 1) r := by
  show (if c = c then _ else _) = _
  rw [if_pos rfl]
theorem one_at {b : Array UInt8} {pre r : List UInt8} {x c : UInt8} (e : b.toList = pre ++ x :: r) : (b.extract pre.length (pre.length + 1) == #[c]) = decide (x = c) := by
  have h : b.extract pre.length (pre.length + 1) = #[x] := by
    apply Array.ext'
    rw [Array.toList_extract, e]
    simp
  rw [h]
  by_cases q : x = c
  · subst q; simp
  · simp [q]
theorem occ_go (b : Array UInt8) (c : UInt8) : ∀ (r pre : List UInt8) (acc : List Nat × Nat), b.toList = pre ++ r → acc.2 ≤ pre.length →
    ((List.range' pre.length r.length).foldl (fun (acc : List Nat × Nat) (i : Nat) => if (decide (i ≥ acc.2) && b.extract i (i + (#[c] : Array UInt8).size) == #[c]) = true then (i :: acc.1, i + (#[c] : Array UInt8).size) else acc) acc).1.reverse = acc.1.reverse ++ idx c pre.length r
  | [], pre, acc, _, _ => by simp [idx]
  | x :: r, pre, acc, e, h => by
    rw [List.length_cons, List.range'_succ, List.foldl_cons]
    have e' : b.toList = (pre ++ [x]) ++ r := by rw [e]; simp
    have one : (b.extract pre.length (pre.length + (#[c] : Array UInt8).size) == #[c]) = decide (x = c) := one_at e
    rw [one, decide_eq_true (show pre.length ≥ acc.2 from h), Bool.true_and]
    have ih := occ_go b c r (pre ++ [x])
    rw [List.length_append, List.length_singleton] at ih
    by_cases q : x = c
    · subst q
      rw [if_pos (by simp), ih _ e' (by simp)]
      rw [idx_hit]; simp
    · rw [if_neg (by simp [q]), ih _ e' (Nat.le_succ_of_le h)]
      show _ = acc.1.reverse ++ (if x = c then _ else idx c (pre.length + 1) r)
      rw [if_neg q]
theorem occ_idx (b : Array UInt8) (c : UInt8) : occurrences b #[c] 0 b.size = idx c 0 b.toList := by
  unfold occurrences
  have h := occ_go b c b.toList [] ([], 0) rfl (Nat.le_refl _)
  have e : (List.range (b.size + 1 - (0 + (#[c] : Array UInt8).size))).map (· + 0) = List.range' ([] : List UInt8).length b.toList.length := by
    have z : b.size + 1 - (0 + (#[c] : Array UInt8).size) = b.toList.length := by simp
    rw [z, List.range_eq_range']; simp
  rw [e]
  rw [List.reverse_nil, List.nil_append] at h
  exact h
theorem cut_at {b : Array UInt8} {pre a r : List UInt8} (e : b.toList = pre ++ (a ++ r)) : b.extract pre.length (pre.length + a.length) = a.toArray := by
  apply Array.ext'
  rw [Array.toList_extract, e]
  simp
theorem btw_go (b : Array UInt8) (c : UInt8) : ∀ (parts : List (List UInt8)) (pre : List UInt8) (acc : Array (Array UInt8)), parts ≠ [] → (∀ p ∈ parts, c ∉ p) → b.toList = pre ++ jl c parts →
    (((idx c pre.length (jl c parts)).foldl (fun (x : Array (Array UInt8) × Nat) p => (x.1.push (b.extract x.2 p), p + 1)) (acc, pre.length)).1.push
      (b.extract ((idx c pre.length (jl c parts)).foldl (fun (x : Array (Array UInt8) × Nat) p => (x.1.push (b.extract x.2 p), p + 1)) (acc, pre.length)).2 b.size)).toList = acc.toList ++ parts.map List.toArray
  | [], _, _, h, _, _ => absurd rfl h
  | [a], pre, acc, _, hc, e => by
    have z : idx c pre.length (jl c [a]) = [] := by
      have := idx_app c a [] pre.length (hc a (.head _))
      rw [List.append_nil] at this
      exact this
    rw [z]
    have hs : b.size = pre.length + a.length := by rw [← Array.length_toList, e]; simp [jl]
    show (acc.push (b.extract pre.length b.size)).toList = _
    rw [hs, cut_at (a := a) (r := []) (by rw [e]; simp [jl]), Array.toList_push]; rfl
  | a :: a2 :: r, pre, acc, _, hc, e => by
    have z : idx c pre.length (jl c (a :: a2 :: r)) = (pre.length + a.length) :: idx c (pre.length + a.length + 1) (jl c (a2 :: r)) := by
      show idx c pre.length (a ++ c :: jl c (a2 :: r)) = _
      rw [idx_app c a _ _ (hc a (.head _)), idx_hit]
    have e2 : b.toList = (pre ++ a ++ [c]) ++ jl c (a2 :: r) := by rw [e]; show pre ++ (a ++ c :: jl c (a2 :: r)) = _; simp
    have ih := btw_go b c (a2 :: r) (pre ++ a ++ [c]) (acc.push a.toArray) (by simp) (fun p hp => hc p (.tail _ hp)) e2
    have hl : (pre ++ a ++ [c]).length = pre.length + a.length + 1 := by simp; omega
    rw [hl] at ih
    rw [z, List.foldl_cons, cut_at (a := a) (r := c :: jl c (a2 :: r)) e]
    rw [ih, Array.toList_push]; simp
theorem between_jl {b : Array UInt8} {c : UInt8} {parts : List (List UInt8)} (h : parts ≠ []) (hc : ∀ p ∈ parts, c ∉ p) (e : b.toList = jl c parts) : between b 1 (idx c 0 b.toList) = parts.map List.toArray := by
  have q := btw_go b c parts [] #[] h hc e
  unfold between
  rw [e]
  simpa using q
theorem idx_len (c : UInt8) : ∀ (parts : List (List UInt8)) (k : Nat), (∀ p ∈ parts, c ∉ p) → (idx c k (jl c parts)).length = parts.length - 1
  | [], _, _ => rfl
  | [a], k, hc => by
    have := idx_app c a [] k (hc a (.head _))
    rw [List.append_nil] at this
    show (idx c k a).length = 0
    rw [this]; rfl
  | a :: a2 :: r, k, hc => by
    show (idx c k (a ++ c :: jl c (a2 :: r))).length = _
    rw [idx_app c a _ _ (hc a (.head _)), idx_hit, List.length_cons, idx_len c (a2 :: r) _ fun p hp => hc p (.tail _ hp)]
    simp
theorem joined_jl (c : UInt8) (ps : List (Array UInt8)) : (joined #[c] ps).toList = jl c (ps.map Array.toList) := by
  unfold joined
  have tail : ∀ (r : List (Array UInt8)) (k : Nat) (out : Array UInt8), ((r.zipIdx (k + 1)).foldl (fun (out : Array UInt8) (x : Array UInt8 × Nat) => (if x.2 > 0 then out ++ #[c] else out) ++ x.1) out).toList = out.toList ++ (r.map fun a => c :: a.toList).flatten := by
    intro r
    induction r with
    | nil => intro k out; simp
    | cons a r ih =>
      intro k out
      rw [List.zipIdx_cons, List.foldl_cons, ih]
      rw [if_pos (Nat.succ_pos k)]
      simp
  have cat : ∀ (a : List UInt8) (r : List (List UInt8)), jl c (a :: r) = a ++ (r.map fun a => c :: a).flatten := by
    intro a r
    induction r generalizing a with
    | nil => simp [jl]
    | cons b r ih => show a ++ c :: jl c (b :: r) = _; rw [ih]; simp
  cases ps with
  | nil => rfl
  | cons a r =>
    rw [List.map_cons, cat]
    rw [List.zipIdx_cons, List.foldl_cons]
    rw [tail r 0]
    simp [List.map_map, Function.comp_def]
section
variable {prog : Program} {w : World} {A : Around} {E : Value → Shared → Prop} {s : Shared}
theorem slot_bytes_split : Slot "bytes" "split" "bytes.split" :=
  .of (owner := "bytes") (n := "split") (by rw [typeLookup_type, builtinLookup_eq_fast]; kernel_rfl) (by decide +kernel) (by decide +kernel) (by decide +kernel)
    (by first | exact .inl (by decide +kernel) | exact .inr (by decide +kernel)) (by rw [isSubtype_type]; kernel_rfl)
theorem entry_bytes_split : entryFor table "bytes.split" = some Builtin.«bytes.split» := entryFor_of_tree (by kernel_rfl)
open PySem.W.FB in
theorem args_bytes_split_2 (a b : Value) : argsOk "bytes.split" ⟨[a, b], []⟩ := by
  unfold argsOk; rw [signature?_of (id := "bytes.split") (n := ['t', 'i', 'l', 'p', 's']) (o := ['s', 'e', 't', 'y', 'b']) (by kernel_rfl) owner_bytes]; kernel_rfl
open PySem.W.FB in
theorem args_bytes_split_3 (a b c : Value) : argsOk "bytes.split" ⟨[a, b, c], []⟩ := by
  unfold argsOk; rw [signature?_of (id := "bytes.split") (n := ['t', 'i', 'l', 'p', 's']) (o := ['s', 'e', 't', 'y', 'b']) (by kernel_rfl) owner_bytes]; kernel_rfl
theorem wp_mapM_new {M : Model} : ∀ (ps : List (Array UInt8)) (s : Shared) {Q : List Value → Shared → Prop}, (∀ p ∈ ps, p.size ≤ sizeLine) → (∀ l tk, l.map (·.1) = ps → Q (bys l) { s with toks := tk }) → wpAny M A (ps.mapM Kind.bytes.new) Q E s
  | [], s, Q, _, h => by
    rw [List.mapM_nil]
    exact wpAny_pure (h [] s.toks rfl)
  | p :: r, s, Q, hs, h => by
    rw [List.mapM_cons]
    refine wpAny_bind (wpAny_mkBytes ?_ (hs p (.head _)))
    refine wpAny_bind (wp_mapM_new r _ (fun q hq => hs q (.tail _ hq)) fun l tk e => ?_)
    exact wpAny_pure (h ((p, s.toks) :: l) tk (by rw [List.map_cons, e]))
structure Cuts (b : Array UInt8) (c : UInt8) (ps : List (Array UInt8)) : Prop where
  ne : ps ≠ []
  off : ∀ p ∈ ps, c ∉ p.toList
  is : b = joined #[c] ps
  small : ∀ p ∈ ps, p.size ≤ sizeLine
  len : ps.length ≤ sizeLine
theorem Cuts.places {b : Array UInt8} {c : UInt8} {ps : List (Array UInt8)} (C : Cuts b c ps) : between b (#[c] : Array UInt8).size (occurrences b #[c] 0 b.size) = ps ∧ (occurrences b #[c] 0 b.size).length = ps.length - 1 := by
  have e : b.toList = jl c (ps.map Array.toList) := by rw [C.is, joined_jl]
  have hc : ∀ p ∈ ps.map Array.toList, c ∉ p := fun p hp => by obtain ⟨q, hq, rfl⟩ := List.mem_map.mp hp; exact C.off q hq
  rw [occ_idx]
  refine ⟨?_, ?_⟩
  · have h := between_jl (b := b) (c := c) (parts := ps.map Array.toList) (by intro z; exact C.ne (List.map_eq_nil_iff.mp z)) hc e
    rw [List.map_map] at h
    have z : ps.map (List.toArray ∘ Array.toList) = ps := by
      rw [show (List.toArray ∘ Array.toList : Array UInt8 → Array UInt8) = _root_.id from rfl, List.map_id]
    rw [z] at h
    exact h
  · have h := idx_len c (ps.map Array.toList) 0 hc
    rw [List.length_map] at h
    rw [e]
    exact h
theorem split_rest (tag : String) {b : Array UInt8} {c : UInt8} {t : Tok} {ps : List (Array UInt8)} {Q : PySem.Fin → Shared → Prop} (C : Cuts b c ps) (places : List Nat) (hp : places = occurrences b #[c] 0 b.size)
    (h : ∀ l tk, l.map (·.1) = ps → Q (.done (.ret (.ref s.heap.objs.size))) { s with heap := s.heap.push (W.listOf (bys l).toArray 0), toks := tk }) :
    wpAny (model prog w) A (if places.isEmpty = true then (do rule tag; let x ← Kind.bytes.same (.bytes b t); let y ← newList [x]; ret y) else (do let x ← (between b (#[c] : Array UInt8).size places).mapM Kind.bytes.new; let y ← newList x; ret y)) Q E s := by
  subst hp
  obtain ⟨e1, e2⟩ := C.places
  split
  · rename_i he
    rw [List.isEmpty_iff] at he
    rw [he] at e2
    match ps, C, e2 with
    | [a], C, _ =>
      have ea : b = a := by rw [C.is]; simp [joined]
      subst ea
      refine wpAny_bind (wpAny_rule ?_)
      refine wpAny_bind (wpAny_of_eq (a := Value.bytes b t) rfl ?_)
      refine wpAny_bind (wpAny_newList ?_ (by show 1 ≤ sizeLine; decide))
      exact wpAny_pure (h [(b, t)] s.toks rfl)
    | a :: a2 :: r, _, e2 => simp at e2
    | [], C, _ => exact absurd rfl C.ne
  · rw [e1]
    refine wpAny_bind (wp_mapM_new ps s C.small fun l tk e => ?_)
    refine wpAny_bind (wpAny_newList ?_ (by rw [bys, List.length_map, ← List.length_map (f := (·.1)), e]; exact C.len))
    exact wpAny_pure (h l tk e)
theorem take_all {l : List Nat} {n : Nat} (h : l.length ≤ n) : l.take n = l := List.take_of_length_le h
theorem bytes_splitM2 {b : Array UInt8} {c : UInt8} {t u : Tok} {ps : List (Array UInt8)} {Q : PySem.Fin → Shared → Prop} (C : Cuts b c ps)
    (h : ∀ l tk, l.map (·.1) = ps → Q (.done (.ret (.ref s.heap.objs.size))) { s with heap := s.heap.push (W.listOf (bys l).toArray 0), toks := tk }) :
    wpAny (model prog w) A («bytes.split» ⟨[.bytes b t, .bytes #[c] u], []⟩) Q E s := by
  unfold «bytes.split» splitM
  dsimp only
  refine wpAny_bind (wpAny_of_eq (a := [some (Value.bytes #[c] u), none]) rfl ?_)
  dsimp only
  refine wpAny_bind (wpAny_pure ?_)
  refine wpAny_bind (wpAny_of_eq (a := b) rfl ?_)
  refine wpAny_bind (wpAny_bind (wpAny_of_eq (buffer_is _ _ _ _) (wpAny_of_eq (a := (#[c] : Array UInt8)) rfl ?_)))
  rw [if_neg (show ¬ ((#[c] : Array UInt8).isEmpty = true) from fun z => by simp at z)]
  have hl : (occurrences b #[c] 0 b.size).length ≤ b.size + 1 := by
    rw [occ_idx]
    have : ∀ (l : List UInt8) (k : Nat), (idx c k l).length ≤ l.length := by
      intro l
      induction l with
      | nil => intro k; exact Nat.le_refl _
      | cons x r ih =>
        intro k
        show (if x = c then k :: idx c (k + 1) r else idx c (k + 1) r).length ≤ _
        split
        · exact Nat.succ_le_succ (ih _)
        · exact Nat.le_succ_of_le (ih _)
    have h := this b.toList 0
    rw [Array.length_toList] at h
    exact Nat.le_succ_of_le h
  exact split_rest _ C _ (take_all hl) h
theorem bytes_splitM3 {b : Array UInt8} {c : UInt8} {n : Int} {t u v : Tok} {ps : List (Array UInt8)} {Q : PySem.Fin → Shared → Prop} (C : Cuts b c ps) (h0 : 0 ≤ n) (h1 : n < 2 ^ 62) (hn : ps.length ≤ n.toNat + 1)
    (h : ∀ l tk, l.map (·.1) = ps → Q (.done (.ret (.ref s.heap.objs.size))) { s with heap := s.heap.push (W.listOf (bys l).toArray 0), toks := tk }) :
    wpAny (model prog w) A («bytes.split» ⟨[.bytes b t, .bytes #[c] u, .int n v], []⟩) Q E s := by
  unfold «bytes.split» splitM
  dsimp only
  refine wpAny_bind (wpAny_of_eq (a := [some (Value.bytes #[c] u), some (.int n v)]) rfl ?_)
  dsimp only
  refine wpAny_bind (wpAny_of_eq (a := n) ?_ ?_)
  · unfold countArg
    have e : asIndex (.int n v) = pure n := rfl
    rw [e]
    have f : fitsIndex n = true := by unfold fitsIndex; simp; omega
    show (if (!fitsIndex n) = true then _ else pure n) = _
    rw [f]; rfl
  refine wpAny_bind (wpAny_of_eq (a := b) rfl ?_)
  refine wpAny_bind (wpAny_bind (wpAny_of_eq (buffer_is _ _ _ _) (wpAny_of_eq (a := (#[c] : Array UInt8)) rfl ?_)))
  rw [if_neg (show ¬ ((#[c] : Array UInt8).isEmpty = true) from fun z => by simp at z)]
  rw [if_neg (show ¬ n < 0 by omega)]
  have hl : (occurrences b #[c] 0 b.size).length ≤ n.toNat := by
    rw [C.places.2]; omega
  exact split_rest _ C _ (take_all hl) h
section
variable {Q : Value → Shared → Prop} {h₀ : Heap} {L : Addr} {m : Str → Option Value} {news : Led}
theorem bytes_split2 {b : Array UInt8} {c : UInt8} {t u : Tok} (ps : List (Array UInt8)) (F : Fr h₀ L s.heap m) (N : News h₀ L s.heap news) (C : Cuts b c ps)
    (h : ∀ D l h' tk', l.map (·.1) = ps → Fr h₀ L h' m → News h₀ L h' ((D, W.listOf (bys l).toArray 0) :: news) → (∀ p ∈ news, p.1 < D) → Q (.ref D) { s with heap := h', toks := tk' }) :
    wpAny (model prog w) A (call (.builtin "bytes.split") [.bytes b t, .bytes #[c] u]) Q E s := by
  refine wpAny_call (codeAny_call_builtin slot_bytes_split.plain entry_bytes_split (slot_bytes_split.check _ _ _ _ _ _ _ _ (typeIs_bytes _ _ _) (args_bytes_split_2 _ _) ?_))
  exact bytes_splitM2 C fun l tk e => h _ l _ tk e (Fr.pushS F _) (News.push F N _) fun p hp => Heap.lt_size (N p hp).1
theorem bytes_split3 {b : Array UInt8} {c : UInt8} {n : Int} {t u v : Tok} (ps : List (Array UInt8)) (F : Fr h₀ L s.heap m) (N : News h₀ L s.heap news) (C : Cuts b c ps) (h0 : 0 ≤ n) (h1 : n < 2 ^ 62) (hn : ps.length ≤ n.toNat + 1)
    (h : ∀ D l h' tk', l.map (·.1) = ps → Fr h₀ L h' m → News h₀ L h' ((D, W.listOf (bys l).toArray 0) :: news) → (∀ p ∈ news, p.1 < D) → Q (.ref D) { s with heap := h', toks := tk' }) :
    wpAny (model prog w) A (call (.builtin "bytes.split") [.bytes b t, .bytes #[c] u, .int n v]) Q E s := by
  refine wpAny_call (codeAny_call_builtin slot_bytes_split.plain entry_bytes_split (slot_bytes_split.check _ _ _ _ _ _ _ _ (typeIs_bytes _ _ _) (args_bytes_split_3 _ _ _) ?_))
  exact bytes_splitM3 C h0 h1 hn fun l tk e => h _ l _ tk e (Fr.pushS F _) (News.push F N _) fun p hp => Heap.lt_size (N p hp).1
end
end
end
section
open PySem.Builtin.Bytes (joined)
section
variable {s : Shared} {E : Value → Shared → Prop} {A : Around}
theorem type_bytes_split : typeOf (.builtin "bytes.split") = pure (.type "method_descriptor") := by show builtinType _ = _; rw [builtinType_eq_fast]; kernel_rfl
theorem meth_join {M : Model} {b : Array UInt8} {t : Tok} {pl : Sem Bool} {Q : Value × List Value → Shared → Prop} (h : Q (.builtin "bytes.join", [.bytes b t]) s) : wpAny M A (getMethod (.bytes b t) "join" pl) Q E s := by
  with_reducible exact KBd.method_of (.bytes b t) (typeIs_bytes _ _ _) slot_bytes_join type_bytes_join KBd.noRef h
theorem meth_split {M : Model} {b : Array UInt8} {t : Tok} {pl : Sem Bool} {Q : Value × List Value → Shared → Prop} (h : Q (.builtin "bytes.split", [.bytes b t]) s) : wpAny M A (getMethod (.bytes b t) "split" pl) Q E s := by
  with_reducible exact KBd.method_of (.bytes b t) (typeIs_bytes _ _ _) slot_bytes_split type_bytes_split KBd.noRef h
end
noncomputable def SmallP (sep : Array UInt8) (ps : List (Array UInt8)) : Prop := sep.size ≤ 1 ∧ ps.length ≤ 64 ∧ ∀ p ∈ ps, p.size ≤ 64
theorem SmallP.of {sep : Array UInt8} {ps : List (Array UInt8)} {its : List (Array UInt8 × Tok)} (h : SmallP sep ps) (e : its.map (·.1) = ps) : Small sep its :=
  ⟨h.1, by rw [← List.length_map (f := (·.1)), e]; exact h.2.1, fun p hp => h.2.2 p.1 (e ▸ List.mem_map_of_mem hp)⟩
theorem bytes_joinP {prog : Program} {w : World} {A : Around} {E : Value → Shared → Prop} {s : Shared} {Q : Value → Shared → Prop} {h₀ : Heap} {L : Addr} {m : Str → Option Value} {news : Led} {l : Addr} {sep : Array UInt8} {t : Tok} {vs : List Value} {k : Nat} (its : List (Array UInt8 × Tok)) (ps : List (Array UInt8)) (F : Fr h₀ L s.heap m) (N : News h₀ L s.heap news)
    (hl : (l, W.listOf vs.toArray k) ∈ news) (hv : vs = bys its) (e : its.map (·.1) = ps) (h1 : ps.length ≠ 1) (hs : SmallP sep ps)
    (h : ∀ t' tk, Q (.bytes (joined sep ps) t') { s with toks := tk }) : wpAny (model prog w) A (call (.builtin "bytes.join") [.bytes sep t, .ref l]) Q E s := by
  subst e
  exact bytes_join its F N hl hv (by rw [List.length_map] at h1; exact h1) (hs.of rfl) h
theorem joined_le (sep : Array UInt8) (ps : List (Array UInt8)) (c n : Nat) (hc : ∀ p ∈ ps, p.size ≤ c) (hs : sep.size ≤ 1) (hn : (c + 1) * ps.length ≤ n) : (joined sep ps).size ≤ n := by
  have a := joined_size sep ps
  have b := sum_le c ps hc
  have d : sep.size * ps.length ≤ 1 * ps.length := Nat.mul_le_mul_right _ hs
  rw [Nat.add_mul] at hn
  omega
end
section
theorem kw_WRep_0 : True := by
  k_with "z20" => skip
  k_with "my kfold" => ((fail_if_success k_extra "z24"); skip)
  k_with "my kf" => ((fail_if_success k_extra "z24"); (k_extra "my kclose"))
  trivial
open PySem.Builtin.Bytes (joined)
noncomputable def ivs (its : List (Int × Tok)) : List Value := its.map fun p => .int p.1 p.2
theorem kw_WRep_1 : True := by
  k_with "my call ref" => ((fail_if_success k_extra "z24"); ((k_here; (with_reducible show wpAny _ _ (call (Value.ref 69) _) _ _ _); k_dflt (refine' Cr.use (dec_ok _ _ _ _ _ _ _ _ ?p1_48 ?p2_48) ?hs_48 ?B_48 ?F_48 ?X_48 ?N_48 ?T_48 ?hk_48 ?hd_48 ?hu_48 ?_; (case N_48 => k_asm); (case hs_48 => kcf_all); (case p1_48 => first | assumption | omega); (case p2_48 => first | assumption | omega); (case B_48 => assumption); (case F_48 => k_asm); (case X_48 => assumption); (case T_48 => assumption); (case hk_48 => rfl); (case hd_48 => ktr_room); (case hu_48 => ktr_units)); intro v1 l1 P1 ap1 h' tk' F' N'; obtain ⟨⟨t1, e1⟩, e2⟩ := P1; subst e1; subst e2; (try simp only [List.nil_append] at N'))))
  k_with "my getMethod bytes" => ((fail_if_success k_extra "z24"); ((k_here; first | (with_reducible refine meth_join ?_) | (with_reducible refine meth_split ?_))))
  trivial
theorem ivs_at {its : List (Int × Tok)} (hb : ∀ p ∈ its, 0 ≤ p.1 ∧ p.1 ≤ 9) {i : Nat} {v : Value} (h : (ivs its)[i]? = some v) : ∃ x t, v = .int x t ∧ 0 ≤ x ∧ x ≤ 9 ∧ (its.map (·.1))[i]? = some x := by
  unfold ivs at h
  rw [List.getElem?_map] at h
  cases q : its[i]? with
  | none => rw [q] at h; cases h
  | some p =>
    rw [q] at h
    cases h
    exact ⟨p.1, p.2, rfl, (hb p (List.mem_of_getElem? q)).1, (hb p (List.mem_of_getElem? q)).2, by rw [List.getElem?_map, q]; rfl⟩
theorem bys_of {α : Type} (f : α → Array UInt8) : ∀ (xs : List α) (ys : List Value), ys.length = xs.length → (∀ (i : Nat) (y : Value), ys[i]? = some y → ∃ x t, xs[i]? = some x ∧ y = Value.bytes (f x) t) → ∃ l, ys = bys l ∧ l.map (·.1) = xs.map f
  | [], [], _, _ => ⟨[], rfl, rfl⟩
  | [], _ :: _, h, _ => by simp at h
  | _ :: _, [], h, _ => by simp at h
  | x :: xs, y :: ys, h, hy => by
    obtain ⟨x', t, e, rfl⟩ := hy 0 y rfl
    cases e
    obtain ⟨l, e1, e2⟩ := bys_of f xs ys (by simpa using h) fun i y hi => hy (i + 1) y hi
    exact ⟨(f x, t) :: l, by rw [e1]; rfl, by rw [List.map_cons, List.map_cons, e2]⟩
noncomputable abbrev digs (xs : List Int) : List (Array UInt8) := xs.map fun x => byteArr [48 + x]
theorem small_digs {xs : List Int} {l : List (Array UInt8 × Tok)} {c : UInt8} (e : l.map (·.1) = digs xs) (h : xs.length ≤ 64) : Small #[c] l := by
  refine ⟨Nat.le_refl 1, by rw [← List.length_map (f := (·.1)), e, List.length_map]; exact h, fun p hp => ?_⟩
  have := List.mem_map_of_mem (f := (·.1)) hp
  rw [e] at this
  obtain ⟨x, _, q⟩ := List.mem_map.mp this
  rw [← q]; simp [byteArr]
theorem len_ne {α : Type} {f : α → Array UInt8} {xs : List α} {l : List (Array UInt8 × Tok)} (e : l.map (·.1) = xs.map f) (h : xs.length ≠ 1) : l.length ≠ 1 := fun z => h (by rw [← List.length_map (f := f), ← e, List.length_map, z])
section
variable {prog : Program} {w : World} {A : Around} {h₀ : Heap} {L : Addr} {m : Str → Option Value} {env : Env} {elt : PySem.Expr} {x : Str} {scope : Scope} {cl : List (Str × Addr)} {s : Shared} {S : Led → Prop} {Fin : List Value → Led → Prop} {news : Led}
theorem cx_bys {α : Type} (f : α → Array UInt8) (xs : List α) {vs : List Value} (R : α → Value → Prop) (hl : vs.length = xs.length) (hv : ∀ (i : Nat) (v : Value), vs[i]? = some v → ∃ a, xs[i]? = some a ∧ R a v)
    (turn : ∀ a v I oI C oC D m₂ ys h tk (E' : Value → Shared → Prop), R a v → LCg.NsObj oC m₂ → m₂ x = some v → Fr h₀ L h m → News h₀ L h ((I, oI) :: (C, oC) :: (D, LCg.lst ys) :: news) → LCg.Off3 I C D news → ((@Ne Nat I C) ∧ (@Ne Nat I D) ∧ (@Ne Nat C D)) →
      wpAny (model prog w) A (eval elt (compEnvC scope cl C env)) (LCg.CompEnd h₀ L m { s with heap := h, toks := tk } I oI C oC D (LCg.lst ys) S (fun y news' => CXEl news (fun y => ∃ t, y = .bytes (f a) t) y news')) E' { s with heap := h, toks := tk })
    (fin : ∀ l : List (Array UInt8 × Tok), l.map (·.1) = xs.map f → Fin (bys l) news) : LCg.CompRest prog w A h₀ L m env elt x scope cl s S (fun i v => vs.toArray[i]? = some v) Fin vs.toArray.size 0 [] news := by
  refine cx_list (fun i y => ∃ a t, xs[i]? = some a ∧ y = .bytes (f a) t) (fun i v I oI C oC D m₂ ys h tk E' hi hC hx F N off ne => ?_) fun ys hys hR => ?_
  · obtain ⟨a, ha, hR⟩ := hv i v hi
    refine wpAny_mono (turn a v I oI C oC D m₂ ys h tk E' hR hC hx F N off ne) (fun y s₂ hq => ?_) fun _ _ e => e
    obtain ⟨h', tk', nw, e, F', N', off', hS, hn, t, hy⟩ := hq
    exact ⟨h', tk', nw, e, F', N', off', hS, hn, a, t, ha, hy⟩
  · obtain ⟨l, rfl, e⟩ := bys_of f xs ys (by rw [hys, hl]) fun i y hi => by
      obtain ⟨a, t, h1, h2⟩ := hR i y hi
      exact ⟨a, t, h1, h2⟩
    exact fin l e
end
noncomputable def DigR (x : Int) (v : Value) : Prop := 0 ≤ x ∧ x ≤ 9 ∧ ∃ t, v = .int x t
theorem dig_at {its : List (Int × Tok)} (hb : ∀ p ∈ its, 0 ≤ p.1 ∧ p.1 ≤ 9) (i : Nat) (v : Value) (h : (ivs its)[i]? = some v) : ∃ a, (its.map (·.1))[i]? = some a ∧ DigR a v := by
  obtain ⟨x, t, e, h0, h1, hx⟩ := ivs_at hb h
  exact ⟨x, hx, h0, h1, t, e⟩
theorem kw_WRep_2 : True := by
  k_with "my eval ListComp" => ((fail_if_success k_extra "z24"); ((k_here; k_dflt (refine LCg.ListComp_U (F₀ := by k_asm) (by rfl) (by decide) (by rfl) (by decide) (by rfl) ?_))))
  k_with "my CompSrc" => ((fail_if_success k_extra "z24"); ((k_here; k_dflt (refine LCg.CompSrc.ledger (by rfl) (by k_asm) (by k_asm) (by k_mem) ?sz_51 ?_; (case sz_51 => first | exact Nat.le_of_ble_eq_true rfl | (simp only [ivs, List.length_map, List.size_toArray]; exact Nat.le_trans (by assumption) (by decide))); intro g'; (refine' cx_bys (fun x => byteArr [48 + x]) _ DigR ?hl_51 (dig_at (by assumption)) (fun a' v' I' oI' C' oC' D' m' ys' h' tk' E' hv' hC' hx' F' N' off' ne' => ?_) ?_); (case hl_51 => (simp only [ivs, List.length_map])); (obtain ⟨b0, b1, t0, e0⟩ := hv'; subst e0); (all_goals (try (simp only [LCg.Off3, and_true] at off'))); kcf_last))))
  k_with "my CompEnd" => ((fail_if_success k_extra "z24"); ((k_here; k_dflt (refine cx_end (by assumption) (by assumption) (by kcf_all) (by first | assumption | (simp only [LCg.Off3, and_true]; done) | (simp only [LCg.Off3, and_true]; assumption)) (by first | lcg_src | assumption | exact True.intro) ⟨_, rfl⟩))))
  k_with "my call builtin:bytes.join" => ((fail_if_success k_extra "z24"); ((k_here; k_dflt (refine bytes_join _ (by k_asm) (by k_asm) (by k_mem) (by rfl) ?jn_53 ?js_53 ?_); rotate_left 2; (intro t' tk'))))
  trivial
set_option maxHeartbeats 2000000 in
theorem rn_ok (w : World) (p : Program) (loose : List Str) (mean : ExcName → Option Value) (mg mb : Str → Option Value) (q : Addr) (k : Nat) (its : List (Int × Tok)) (hb : ∀ p ∈ its, 0 ≤ p.1 ∧ p.1 ≤ 9) (h2 : 2 ≤ its.length) (h3 : its.length ≤ 3) :
    Cr w p loose mean mg mb 6 116 [.ref q] [(q, W.listOf (ivs its).toArray k)] (fun v l => (∃ t', v = .bytes (joined #[59] (digs (its.map (·.1)))) t') ∧ l = []) := _root_.id <| by
  k_dflt (refine' Cr.of_body (binds := [(("numbers" : Str), .ref q)]) ?k6 ?k7 ?k9 ?kB ?c2 ?c3 ?c4 ?c5 ?_; (case k6 => k_is); (case k7 => k_is); (case k9 => exact rfl); (case kB => exact locs rfl); (case c2 => exact rfl); (case c3 => exact rfl); (case c4 => exact rfl); (case c5 => decide))
  intro dp un gd outer A₀ base g L h tk gs dr os Q B X Tp F N lL hd hu hQ
  revert hb h2 h3 B X Tp F N lL hd hu hQ
  revert w p loose mean mg mb q k its dp un gd outer A₀ base g L h tk gs dr os Q
  k_extra "my d14"; intros w p loose mean mg mb q k its dp un gd outer A₀; k_extra "my of"
  k_extra "my d8"; intros base g L h tk gs dr os; k_extra "my of"
  k_extra "my d1"; intros Q; k_extra "my of"
  intros hb h2 h3 B X Tp F N lL hd hu hQ
  haveI mk : Mark := Mark.mk
  try k_lt lL
  k_extra "my kclose"
  k_extra "my ks2"
  all_goals first
  | exact small_digs (by assumption) (by rw [List.length_map]; omega)
  | (refine len_ne (by assumption) ?_; rw [List.length_map]; omega)
  | skip
  refine' hQ _ _ [] _ _ _ ?ff ?nn ?sub ?ap ⟨⟨_, congrArg (fun z => Value.bytes (joined #[59] z) _) (by assumption)⟩, rfl⟩
  case ff => assumption
  case nn => assumption
  case sub => (try simp only [List.cons_append, List.nil_append]); kcf_all
  case ap => exact List.forall_mem_nil _
end
section
noncomputable def sixB : List (Array UInt8) := [#[66], #[48], #[65], #[60], #[37, 53], #[45, 65]]
set_option genInjectivity false
set_option genSizeOf false
set_option genSizeOfSpec false
structure SA where
  (s sd cu cud tg td st ch chd nm mo md ss pn : Addr)
structure SV where
  (row col fl q1 q2 q3 q4 lf rt : Int)
  (wt og gd md : Bool)
  (b0 b1 b2 b3 : Array UInt8)
  (sh : Option Int)
structure ST where
  (a0 a1 a2 a3 a4 a5 a6 a7 a8 a9 a10 a11 a12 r0 r1 c0 c1 c2 c3 c4 c5 c6 c7 d0 d1 d2 e0 e1 e2 e3 e4 e5 e6 n0 n1 n2 n3 m0 m1 p0 p1 p2 p3 p4 : Tok)
  (wi hist grid mar saved last has made shv kp : Value)
  (k : Nat)
  (oss ost : Obj)
noncomputable def ShIs (v : Value) : Option Int → Prop
  | none => v = .none
  | some x => ∃ t, v = .int x t
noncomputable abbrev tupV (vs : List Value) : Obj := { cls := .type "tuple", data := .seq vs.toArray }
noncomputable def scO (w : World) (A : SA) (T : ST) (r c : Int) : Obj := dictOf [en w "rows" T.a0 (.int r T.r0), en w "columns" T.a1 (.int c T.r1), en w "modes" T.a2 (.ref A.mo), en w "widths" T.a3 T.wi, en w "history" T.a4 T.hist, en w "grid" T.a5 T.grid, en w "cursor" T.a6 (.ref A.cu), en w "margins" T.a7 T.mar, en w "tabs" T.a8 (.ref A.tg), en w "charsets" T.a9 (.ref A.ch), en w "saved" T.a10 T.saved, en w "last" T.a11 T.last, en w "has_right" T.a12 T.has] 13
noncomputable def cuO (w : World) (A : SA) (T : ST) (σ : SV) : Obj := dictOf [en w "row" T.c0 (.int σ.row T.c6), en w "column" T.c1 (.int σ.col T.c7), en w "is_waiting" T.c2 (.bool σ.wt), en w "pen" T.c3 (.ref A.pn), en w "is_origin" T.c4 (.bool σ.og), en w "is_guarding" T.c5 (.bool σ.gd)] 6
noncomputable def tdO (w : World) (A : SA) (T : ST) (c : Int) : Obj := dictOf [en w "columns" T.d0 (.int c T.d2), en w "stops" T.d1 (.ref A.st)] 2
noncomputable def chO (w : World) (A : SA) (T : ST) (σ : SV) : Obj := dictOf [en w "made" T.e0 T.made, en w "names" T.e1 (.ref A.nm), en w "left" T.e2 (.int σ.lf T.e5), en w "right" T.e3 (.int σ.rt T.e6), en w "shift" T.e4 T.shv] 5
noncomputable abbrev nmO (T : ST) (σ : SV) : Obj := W.listOf #[.bytes σ.b0 T.n0, .bytes σ.b1 T.n1, .bytes σ.b2 T.n2, .bytes σ.b3 T.n3] T.k
noncomputable def moO (w : World) (A : SA) (T : ST) : Obj := dictOf [en w "states" T.m0 (.ref A.ss), en w "kept" T.m1 T.kp] 2
noncomputable abbrev pnO (T : ST) (σ : SV) : Obj := tupV [.int σ.fl T.p0, .int σ.q1 T.p1, .int σ.q2 T.p2, .int σ.q3 T.p3, .int σ.q4 T.p4]
noncomputable abbrev scrL (w : World) (A : SA) (T : ST) (r c : Int) (σ : SV) : Led :=
  [(A.s, instObj 1271 A.sd), (A.sd, scO w A T r c), (A.cu, instObj 441 A.cud), (A.cud, cuO w A T σ), (A.tg, instObj 673 A.td), (A.td, tdO w A T c), (A.st, T.ost), (A.ch, instObj 392 A.chd), (A.chd, chO w A T σ), (A.nm, nmO T σ), (A.mo, instObj 198 A.md), (A.md, moO w A T), (A.ss, T.oss), (A.pn, pnO T σ)]
structure ScrOK (w : World) (A : SA) (T : ST) (c : Int) (σ : SV) : Prop where
  oss : T.oss.IsDictOf (strKind pw w) (modeL (some σ.md))
  ost : T.ost.IsDictOf (intKind pw w) (stopsOf c)
  sh : ShIs T.shv σ.sh
  o1 : @LT.lt Nat _ A.md A.mo
  o2 : @LT.lt Nat _ A.mo A.ss
  o3 : @LT.lt Nat _ A.ss A.sd
  o4 : @LT.lt Nat _ A.sd A.s
  o5 : @LT.lt Nat _ A.s A.cud
  o6 : @LT.lt Nat _ A.cud A.cu
  o7 : @LT.lt Nat _ A.cu A.td
  o8 : @LT.lt Nat _ A.td A.tg
  o9 : @LT.lt Nat _ A.tg A.st
  o10 : @LT.lt Nat _ A.st A.chd
  o11 : @LT.lt Nat _ A.chd A.ch
  o12 : @LT.lt Nat _ A.ch A.nm
  o13 : @LT.lt Nat _ A.nm A.pn
structure Good (σ : SV) (r c : Int) : Prop where
  row0 : 0 ≤ σ.row
  row1 : σ.row < r
  col0 : 0 ≤ σ.col
  col1 : σ.col < c
  fl0 : 0 ≤ σ.fl
  fl1 : σ.fl < 4096
  lf0 : 0 ≤ σ.lf
  lf1 : σ.lf < 4
  rt0 : 0 ≤ σ.rt
  rt1 : σ.rt < 4
  md : σ.md = σ.og
  b0 : σ.b0 ∈ sixB
  b1 : σ.b1 ∈ sixB
  b2 : σ.b2 ∈ sixB
  b3 : σ.b3 ∈ sixB
  sh : σ.sh = none ∨ σ.sh = some 2 ∨ σ.sh = some 3
end
section
theorem kw_WState_0 : True := by
  k_with "z24" => skip
  k_with "my kfold" => ((fail_if_success k_extra "z26"); skip)
  k_with "my kf" => ((fail_if_success k_extra "z26"); (k_extra "my kclose"))
  trivial
theorem isTup_new {h₀ h : Heap} {L q : Addr} {news : Led} {vs : Array Value} {k : Nat} (N : News h₀ L h news) (hq : (q, { cls := .type "tuple", data := .seq vs k }) ∈ news) : IsTup h q vs := ⟨_, (N _ hq).1, rfl, k, rfl⟩
theorem kw_WState_1 : True := by
  k_with "my call type:tuple" => ((fail_if_success k_extra "z26"); ((k_here; (with_reducible show wpAny _ _ (call (Value.type _) [Value.ref _]) _ _ _); k_dflt (refine call_tuple_tup (isTup_new (by k_asm) (by k_mem)) ?_))))
  trivial
theorem lo_of {a b x : Addr} (h1 : @LT.lt Nat _ a b) (h2 : @LT.lt Nat _ b x) : (x == sysModules) = false := by
  have h : x ≠ 1 := by
    intro e
    have h3 : @LT.lt Nat _ b 1 := e ▸ h2
    omega
  exact beq_eq_false_iff_ne.mpr h
theorem handed_of {v : Value} {o : Option Int} (h : ShIs v o) : handedIn v = true := by
  cases o with
  | none => rw [show v = .none from h]; rfl
  | some x => obtain ⟨t, rfl⟩ := (show ∃ t, v = .int x t from h); rfl
theorem kw_WState_2 : True := by
  k_with "my khanded" => ((fail_if_success k_extra "z26"); (with_reducible assumption))
  k_with "my call builtin:dict.get" => ((fail_if_success k_extra "z26"); ((k_here; k_dflt (refine kdg_get2 (knd := PySem.strKind _ _) (by k_asm) (by k_mem) (by with_reducible assumption) (by k_asm) (strKind_is _ _ _ _) (some _) (by rfl) ?_))))
  k_with "my getMethod ref" => ((fail_if_success k_extra "z26"); ((k_here; (with_reducible show wpAny _ _ (getMethod (Value.ref _) (Str.ofString "get") _) _ _ _); k_dflt (refine kdg_method (knd := PySem.strKind _ _) (by k_asm) (by k_mem) (by with_reducible assumption) ?_))))
  trivial
set_option maxHeartbeats 8000000 in
theorem state_ok (w : World) (p : Program) (loose : List Str) (mean : ExcName → Option Value) (mg mb : Str → Option Value) (A : SA) (T : ST) (r c : Int) (σ : SV) (hS : ScrOK w A T c σ) :
    Cr w p loose mean mg mb 8 1306 [.ref A.s] (scrL w A T r c σ) (fun v l => ∃ (q nl : Addr) (k1 k2 : Nat) (shv : Value) (t0 t1 t2 t3 u0 u1 u2 u3 : Tok), v = .ref q ∧ l = [(q, W.listOf #[.int σ.row t0, .int σ.col t1, .ref A.pn, .bool σ.gd, .bool σ.og, .bool σ.wt, .ref nl, .int σ.lf t2, .int σ.rt t3, shv, .bool σ.md] k1), (nl, W.listOf #[.bytes σ.b0 u0, .bytes σ.b1 u1, .bytes σ.b2 u2, .bytes σ.b3 u3] k2)] ∧ ShIs shv σ.sh) := _root_.id <| by
  have hsh := hS.sh
  have hss := hS.oss
  have hhd := handed_of hsh
  have hlo := lo_of hS.o1 hS.o2
  intro rest dis dp un gd cn cs a ccd cl outer A₀ base h₀ L m s Q E B F X N Tp hk hd hu hr
  revert hS hsh hss hhd hlo dis B F X N Tp hk hd hu hr
  revert w p loose mean mg mb A T r c σ rest dp un gd cn cs a ccd cl outer A₀ base h₀ L m s Q E
  k_extra "my d14"; intros w p loose mean mg mb A T r c σ rest dp un; k_extra "my of"
  k_extra "my d14"; intros gd cn cs a ccd cl outer A₀ base h₀ L m s Q; k_extra "my of"
  k_extra "my d1"; intros E; k_extra "my of"
  intros hS hsh hss hhd hlo dis B F X N Tp hk hd hu hr
  haveI mk : Mark := Mark.mk
  refine wpAny_call ?_
  k_dflt (refine' code_defR dis ?k1 ?k2 ?k3 ?k4 ?k5 ?kA ?kF ?kK ?k6 ?k7 ?k8 ?k9 ?kB ?_ ?c2 ?c3 ?c4 ?c5; (case kA => exact rfl); (case kF => exact rfl); (case kK => first | assumption | exact rfl); (case k1 => k_asm); (case k2 => k_asm); (case k3 => k_asm); (case k4 => k_asm); (case k5 => k_asm); (case k6 => k_is); (case k7 => k_is); (case k8 => k_room); (case k9 => first | exact BindsTo.of_eq rfl | exact binds_K (by k_in) rfl (by k_is) rfl rfl rfl); (case c5 => decide); (case kB => exact locs rfl); (case c2 => exact rfl); (case c3 => exact rfl); (case c4 => exact rfl); k_whole; intro g' L' h' FG' F' N' B' X' T' kp lL; have lLs := lt_small lL; (try k_lt lLs); (try dsimp only); (try k_lift B'))
  k_extra "my kclose"
  k_extra "my ks2"
  refine' hr _ _ ⟨_, _, _, _, _, _, _, _, _, _, _, _, _, rfl, rfl, hsh⟩ ?ap _ _ ?ff ?nn
  case ff => assumption
  case nn =>
    refine kept_joinR (by assumption) (by assumption) (by assumption) (by assumption) ?_
    try simp only [List.cons_append, List.nil_append]
    kcf_all
  case ap =>
    refine apart_app ?_ (kept_apart (by assumption) (by assumption) ?_)
    · repeat' (first | exact List.forall_mem_nil _ | (refine List.forall_mem_cons.mpr ⟨?_, ?_⟩))
      all_goals k_ne
    · try simp only [List.cons_append, List.nil_append]
      kcf_all
  all_goals first | assumption | omega
end
section
local macro_rules | `(tactic| k_lt $h:ident) => `(tactic| clear $h)
theorem kw_WCur_0 : True := by
  k_with "z26" => skip
  k_with "my kfold" => ((fail_if_success k_extra "z27"); skip)
  k_with "my kf" => ((fail_if_success k_extra "z27"); (k_extra "my kclose"))
  trivial
open PySem.Builtin.Bytes (joined)
theorem rn_b3 {a b c : Int} {t u v : Tok} (a0 : 0 ≤ a) (a1 : a ≤ 9) (b0 : 0 ≤ b) (b1 : b ≤ 9) (c0 : 0 ≤ c) (c1 : c ≤ 9) : ∀ p ∈ [(a, t), (b, u), (c, v)], 0 ≤ p.1 ∧ p.1 ≤ 9 :=
  List.forall_mem_cons.mpr ⟨⟨a0, a1⟩, List.forall_mem_cons.mpr ⟨⟨b0, b1⟩, List.forall_mem_cons.mpr ⟨⟨c0, c1⟩, List.forall_mem_nil _⟩⟩⟩
theorem rn_b2 {a b : Int} {t u : Tok} (a0 : 0 ≤ a) (a1 : a ≤ 9) (b0 : 0 ≤ b) (b1 : b ≤ 9) : ∀ p ∈ [(a, t), (b, u)], 0 ≤ p.1 ∧ p.1 ≤ 9 :=
  List.forall_mem_cons.mpr ⟨⟨a0, a1⟩, List.forall_mem_cons.mpr ⟨⟨b0, b1⟩, List.forall_mem_nil _⟩⟩
theorem kw_WCur_1 : True := by
  k_with "my call ref" => ((fail_if_success k_extra "z27"); ((k_here; (with_reducible show wpAny _ _ (call (Value.ref 116) _) _ _ _); k_dflt (refine' Cr.use1 (rn_ok _ _ _ _ _ _ _ _ [(_, _), (_, _), (_, _)] ?p1_60 (Nat.le_of_ble_eq_true rfl) (Nat.le_of_ble_eq_true rfl)) ?hm_60 ?B_60 ?F_60 ?X_60 ?N_60 ?T_60 ?hk_60 ?hd_60 ?hu_60 ?_; (case N_60 => k_asm); (case hm_60 => k_mem); (case p1_60 => exact rn_b3 (by assumption) (by assumption) (by assumption) (by assumption) (by decide) (by decide)); (case B_60 => assumption); (case F_60 => k_asm); (case X_60 => assumption); (case T_60 => assumption); (case hk_60 => rfl); (case hd_60 => ktr_room); (case hu_60 => ktr_units)); intro v1 l1 P1 ap1 h' tk' F' N'; obtain ⟨⟨t1, e1⟩, e2⟩ := P1; subst e1; subst e2; (try simp only [List.nil_append] at N'))))
  k_with "my call ref" => ((fail_if_success k_extra "z27"); ((k_here; (with_reducible show wpAny _ _ (call (Value.ref 116) _) _ _ _); k_dflt (refine' Cr.use1 (rn_ok _ _ _ _ _ _ _ _ [(_, _), (_, _)] ?p1_61 (Nat.le_of_ble_eq_true rfl) (Nat.le_of_ble_eq_true rfl)) ?hm_61 ?B_61 ?F_61 ?X_61 ?N_61 ?T_61 ?hk_61 ?hd_61 ?hu_61 ?_; (case N_61 => k_asm); (case hm_61 => k_mem); (case p1_61 => exact rn_b2 (by assumption) (by assumption) (by assumption) (by assumption)); (case B_61 => assumption); (case F_61 => k_asm); (case X_61 => assumption); (case T_61 => assumption); (case hk_61 => rfl); (case hd_61 => ktr_room); (case hu_61 => ktr_units)); intro v1 l1 P1 ap1 h' tk' F' N'; obtain ⟨⟨t1, e1⟩, e2⟩ := P1; subst e1; subst e2; (try simp only [List.nil_append] at N'))))
  k_with "my call ref" => ((fail_if_success k_extra "z27"); ((k_here; (with_reducible show wpAny _ _ (call (Value.ref 123) _) _ _ _); k_dflt (refine' Cr.use1 (bits4 _ _ _ _ _ _ _ _ _ _ _ _ _ _ _ _ ?p1_62 ?p2_62 ?p3_62 ?p4_62) ?hm_62 ?B_62 ?F_62 ?X_62 ?N_62 ?T_62 ?hk_62 ?hd_62 ?hu_62 ?_; (case N_62 => k_asm); (case hm_62 => k_mem); (case p1_62 => first | exact TruV.bool _ | exact TruV.int _ _); (case p2_62 => first | exact TruV.bool _ | exact TruV.int _ _); (case p3_62 => first | exact TruV.bool _ | exact TruV.int _ _); (case p4_62 => first | exact TruV.bool _ | exact TruV.int _ _); (case B_62 => assumption); (case F_62 => k_asm); (case X_62 => assumption); (case T_62 => assumption); (case hk_62 => rfl); (case hd_62 => ktr_room); (case hu_62 => ktr_units)); intro v1 l1 P1 ap1 h' tk' F' N'; obtain ⟨⟨t1, e1⟩, e2⟩ := P1; subst e1; subst e2; (try simp only [List.nil_append] at N'))))
  k_with "my call ref" => ((fail_if_success k_extra "z27"); ((k_here; (with_reducible show wpAny _ _ (call (Value.ref 123) _) _ _ _); k_dflt (refine' Cr.use1 (bits1 _ _ _ _ _ _ _ _ _ _ ?p1_63) ?hm_63 ?B_63 ?F_63 ?X_63 ?N_63 ?T_63 ?hk_63 ?hd_63 ?hu_63 ?_; (case N_63 => k_asm); (case hm_63 => k_mem); (case p1_63 => first | exact TruV.bool _ | exact TruV.int _ _); (case B_63 => assumption); (case F_63 => k_asm); (case X_63 => assumption); (case T_63 => assumption); (case hk_63 => rfl); (case hd_63 => ktr_room); (case hu_63 => ktr_units)); intro v1 l1 P1 ap1 h' tk' F' N'; obtain ⟨⟨t1, e1⟩, e2⟩ := P1; subst e1; subst e2; (try simp only [List.nil_append] at N'))))
  k_with "my getMethod bytes" => ((fail_if_success k_extra "z27"); ((k_here; first | (with_reducible refine meth_join ?_) | (with_reducible refine meth_split ?_))))
  trivial
theorem sh_eq {prog : Program} {w : World} {A : Around} {E : Value → Shared → Prop} {s : Shared} {v : Value} {o : Option Int} {k : Int} {t : Tok} {Q : Value → Shared → Prop} (h : ShIs v o) (q : Q (.bool (decide (o = some k))) s) : wpAny (model prog w) A (compareOp .Eq v (.int k t)) Q E s := by
  cases o with
  | none =>
    rw [show v = .none from h]
    refine EqNone.eq_none_int ?_
    have e : decide (none = some k) = false := decide_eq_false (fun z => nomatch z)
    rw [e] at q
    exact q
  | some x =>
    obtain ⟨u, rfl⟩ := (show ∃ t, v = .int x t from h)
    refine eq_int ?_
    have e : decide (some x = some k) = decide (x = k) := by simp
    rw [e] at q
    exact q
theorem kw_WCur_2 : True := by
  k_with "my compareOp Eq int" => ((fail_if_success k_extra "z27"); ((k_here; k_dflt (refine sh_eq (by with_reducible assumption) ?_))))
  k_with "my khanded" => ((fail_if_success k_extra "z27"); (with_reducible assumption))
  trivial
noncomputable def dash (b : Array UInt8) : Bool := b == #[45, 65]
noncomputable def undash (b : Array UInt8) : Array UInt8 := if dash b then #[65] else b
theorem six_cases {b : Array UInt8} (h : b ∈ sixB) : b = #[66] ∨ b = #[48] ∨ b = #[65] ∨ b = #[60] ∨ b = #[37, 53] ∨ b = #[45, 65] := by
  simpa [sixB] using h
noncomputable def SixR (a : Array UInt8) (v : Value) : Prop := a ∈ sixB ∧ ∃ t, v = .bytes a t
theorem six_at {b0 b1 b2 b3 : Array UInt8} {t0 t1 t2 t3 : Tok} (h0 : b0 ∈ sixB) (h1 : b1 ∈ sixB) (h2 : b2 ∈ sixB) (h3 : b3 ∈ sixB) (i : Nat) (v : Value) (h : [Value.bytes b0 t0, .bytes b1 t1, .bytes b2 t2, .bytes b3 t3][i]? = some v) : ∃ a, [b0, b1, b2, b3][i]? = some a ∧ SixR a v := by
  match i, h with
  | 0, h => cases h; exact ⟨_, rfl, h0, _, rfl⟩
  | 1, h => cases h; exact ⟨_, rfl, h1, _, rfl⟩
  | 2, h => cases h; exact ⟨_, rfl, h2, _, rfl⟩
  | 3, h => cases h; exact ⟨_, rfl, h3, _, rfl⟩
theorem six_size {b : Array UInt8} (h : b ∈ sixB) : (KBw.bInts b).length ≤ 16777216 := by
  rcases six_cases h with rfl | rfl | rfl | rfl | rfl | rfl <;> decide
theorem dash_head {b : Array UInt8} (h : b ∈ sixB) : ((KBy.picked b none (some 1)).toList == [45]) = dash b := by
  rcases six_cases h with rfl | rfl | rfl | rfl | rfl | rfl <;> decide
theorem dash_tail {b : Array UInt8} (h : b ∈ sixB) (hd : dash b = true) : KBy.picked b (some 1) none = undash b := by
  revert hd
  rcases six_cases h with rfl | rfl | rfl | rfl | rfl | rfl <;> decide
theorem dash_not {b : Array UInt8} (hd : dash b = false) : b = undash b := by unfold undash; rw [hd]; rfl
theorem eq_head {prog : Program} {w : World} {A : Around} {E : Value → Shared → Prop} {s : Shared} {b : Array UInt8} {t u : Tok} {Q : Value → Shared → Prop} (hb : b ∈ sixB) (h : Q (.bool (dash b)) s) : wpAny (model prog w) A (compareOp .Eq (.bytes (KBy.picked b none (some 1)) t) (.bytes #[45] u)) Q E s := by
  refine eq_bytes ?_
  have e := dash_head hb
  rw [show (#[45] : Array UInt8).toList = [45] from rfl, e]
  exact h
theorem kw_WCur_3 : True := by
  k_with "my compareOp Eq bytes bytes" => ((fail_if_success k_extra "z27"); ((k_here; k_dflt (refine eq_head (by with_reducible assumption) ?_))))
  k_with "my subscriptTail" => ((fail_if_success k_extra "z27"); ((k_here; (with_reducible show wpAny _ _ (subscriptTail _ (Expr.Slice _ _ none _) (Value.bytes _ _) (Value.ref _)) _ _ _); (with_reducible rename Fr _ _ _ _ => F'); (with_reducible rename News _ _ _ _ => N'); (with_unfolding_all refine KBc.slice_K (s := ⟨_, _, _, _, _⟩) (ks := KBw.bInts _) F' N' rfl (by first | exact IsPart.none | exact IsPart.int _ _) (by first | exact IsPart.none | exact IsPart.int _ _) (six_size (by with_reducible assumption)) ?_); clear F' N'; intro h' t' tk' F' N' _)))
  trivial
section
variable {prog : Program} {w : World} {A : Around} {h₀ : Heap} {L : Addr} {m : Str → Option Value} {env : Env} {elt : PySem.Expr} {x : Str} {scope : Scope} {cl : List (Str × Addr)} {s : Shared} {S : Led → Prop} {Fin : List Value → Led → Prop} {news : Led}
theorem cx_val {α : Type} (f : α → Value) (xs : List α) {vs : List Value} (R : α → Value → Prop) (hl : vs.length = xs.length) (hv : ∀ (i : Nat) (v : Value), vs[i]? = some v → ∃ a, xs[i]? = some a ∧ R a v)
    (turn : ∀ a v I oI C oC D m₂ ys h tk (E' : Value → Shared → Prop), R a v → LCg.NsObj oC m₂ → m₂ x = some v → Fr h₀ L h m → News h₀ L h ((I, oI) :: (C, oC) :: (D, LCg.lst ys) :: news) → LCg.Off3 I C D news → ((@Ne Nat I C) ∧ (@Ne Nat I D) ∧ (@Ne Nat C D)) →
      wpAny (model prog w) A (eval elt (compEnvC scope cl C env)) (LCg.CompEnd h₀ L m { s with heap := h, toks := tk } I oI C oC D (LCg.lst ys) S (fun y news' => CXEl news (fun y => y = f a) y news')) E' { s with heap := h, toks := tk })
    (fin : Fin (xs.map f) news) : LCg.CompRest prog w A h₀ L m env elt x scope cl s S (fun i v => vs.toArray[i]? = some v) Fin vs.toArray.size 0 [] news := by
  refine cx_list (fun i y => ∃ a, xs[i]? = some a ∧ y = f a) (fun i v I oI C oC D m₂ ys h tk E' hi hC hx F N off ne => ?_) fun ys hys hR => ?_
  · obtain ⟨a, ha, hR⟩ := hv i v hi
    refine wpAny_mono (turn a v I oI C oC D m₂ ys h tk E' hR hC hx F N off ne) (fun y s₂ hq => ?_) fun _ _ e => e
    obtain ⟨h', tk', nw, e, F', N', off', hS, hn, hy⟩ := hq
    exact ⟨h', tk', nw, e, F', N', off', hS, hn, a, ha, hy⟩
  · have : ys = xs.map f := by
      refine List.ext_getElem? fun i => ?_
      rw [List.getElem?_map]
      rcases Nat.lt_or_ge i ys.length with hi | hi
      · obtain ⟨a, h1, h2⟩ := hR i _ (List.getElem?_eq_getElem hi)
        rw [List.getElem?_eq_getElem hi, h1, h2]; rfl
      · rw [List.getElem?_eq_none hi, List.getElem?_eq_none (by omega)]; rfl
    exact this ▸ fin
end
theorem kw_WCur_4 : True := by
  k_with "my eval ListComp" => ((fail_if_success k_extra "z27"); ((k_here; k_dflt (refine LCg.ListComp_U (F₀ := by k_asm) (by rfl) (by decide) (by rfl) (by decide) (by rfl) ?_))))
  k_with "my CompSrc" => ((fail_if_success k_extra "z27"); ((k_here; k_dflt (refine LCg.CompSrc.ledger (by rfl) (by k_asm) (by k_asm) (by k_mem) (by exact Nat.le_of_ble_eq_true rfl) ?_; intro g'; first
  | ((with_reducible show LCg.CompRest _ _ _ _ _ _ _ (Expr.Compare _ _ _ _) _ _ _ _ _ _ _ _ _ _ _); refine' cx_val (fun b => Value.bool (dash b)) [_, _, _, _] SixR rfl (six_at (by assumption) (by assumption) (by assumption) (by assumption)) (fun a' v' I' oI' C' oC' D' m' ys' h' tk' E' hv' hC' hx' F' N' off' ne' => ?_) ?_; (obtain ⟨hs', t0, e0⟩ := hv'; subst e0))
  | (refine' cx_bys undash [_, _, _, _] SixR rfl (six_at (by assumption) (by assumption) (by assumption) (by assumption)) (fun a' v' I' oI' C' oC' D' m' ys' h' tk' E' hv' hC' hx' F' N' off' ne' => ?_) ?_; (obtain ⟨hs', t0, e0⟩ := hv'; subst e0)); (all_goals (try (simp only [LCg.Off3, and_true] at off'))); kcf_last))))
  k_with "my CompEnd" => ((fail_if_success k_extra "z27"); ((k_here; k_dflt (refine cx_end (by assumption) (by assumption) (by kcf_all) (by first | assumption | (simp only [LCg.Off3, and_true]; done) | (simp only [LCg.Off3, and_true]; assumption)) (by first | lcg_src | assumption | exact True.intro) (by first | exact rfl | exact ⟨_, congrArg (fun z => Value.bytes z _) (dash_tail (by with_reducible assumption) (by with_reducible assumption))⟩ | exact ⟨_, congrArg (fun z => Value.bytes z _) (dash_not (by first | with_reducible assumption | exact Bool.eq_false_iff.mpr (by with_reducible assumption)))⟩ | exact ⟨_, rfl⟩)))))
  trivial
noncomputable def repParts (σ : SV) : List (Array UInt8) :=
  [joined #[59] (digs [σ.row + 1, σ.col + 1, 1]), byteArr [bit4 (Builtin.bitAnd σ.fl 1 != 0) ((Builtin.bitAnd σ.fl 3584).fdiv (2 ^ Int.toNat 9) != 0) (Builtin.bitAnd σ.fl 8 != 0) (Builtin.bitAnd σ.fl 32 != 0)], byteArr [bit1 σ.gd],
    byteArr [bit4 σ.og (decide (σ.sh = some 2)) (decide (σ.sh = some 3)) σ.wt], joined #[59] (digs [σ.lf, σ.rt]), byteArr [bit4 (dash σ.b0) (dash σ.b1) (dash σ.b2) (dash σ.b3)], joined #[] ([σ.b0, σ.b1, σ.b2, σ.b3].map undash)]
theorem undash_size {b : Array UInt8} (h : b ∈ sixB) : (undash b).size ≤ 2 := by
  rcases six_cases h with rfl | rfl | rfl | rfl | rfl | rfl <;> decide
theorem digs_size {xs : List Int} : ∀ p ∈ digs xs, p.size ≤ 1 := fun p hp => by
  obtain ⟨x, _, rfl⟩ := List.mem_map.mp hp
  simp [byteArr]
theorem names_size {b0 b1 b2 b3 : Array UInt8} (h0 : b0 ∈ sixB) (h1 : b1 ∈ sixB) (h2 : b2 ∈ sixB) (h3 : b3 ∈ sixB) : ∀ p ∈ [b0, b1, b2, b3].map undash, p.size ≤ 2 :=
  List.forall_mem_cons.mpr ⟨undash_size h0, List.forall_mem_cons.mpr ⟨undash_size h1, List.forall_mem_cons.mpr ⟨undash_size h2, List.forall_mem_cons.mpr ⟨undash_size h3, List.forall_mem_nil _⟩⟩⟩⟩
theorem names_small {b0 b1 b2 b3 : Array UInt8} (h0 : b0 ∈ sixB) (h1 : b1 ∈ sixB) (h2 : b2 ∈ sixB) (h3 : b3 ∈ sixB) : SmallP #[] ([b0, b1, b2, b3].map undash) :=
  ⟨Nat.zero_le _, Nat.le_of_ble_eq_true rfl, fun p hp => Nat.le_trans (names_size h0 h1 h2 h3 p hp) (by decide)⟩
theorem one_size {x : Int} : (byteArr [x]).size ≤ 64 := by simp [byteArr]
theorem rep_small {σ : SV} (h0 : σ.b0 ∈ sixB) (h1 : σ.b1 ∈ sixB) (h2 : σ.b2 ∈ sixB) (h3 : σ.b3 ∈ sixB) : SmallP #[59] (repParts σ) :=
  ⟨Nat.le_refl 1, Nat.le_of_ble_eq_true rfl, List.forall_mem_cons.mpr ⟨joined_le _ _ 1 64 digs_size (Nat.le_refl 1) (Nat.le_of_ble_eq_true rfl), List.forall_mem_cons.mpr ⟨one_size, List.forall_mem_cons.mpr ⟨one_size, List.forall_mem_cons.mpr ⟨one_size,
    List.forall_mem_cons.mpr ⟨joined_le _ _ 1 64 digs_size (Nat.le_refl 1) (Nat.le_of_ble_eq_true rfl), List.forall_mem_cons.mpr ⟨one_size, List.forall_mem_cons.mpr ⟨joined_le _ _ 2 64 (names_size h0 h1 h2 h3) (Nat.zero_le _) (Nat.le_of_ble_eq_true rfl), List.forall_mem_nil _⟩⟩⟩⟩⟩⟩⟩⟩
theorem kw_WCur_5 : True := by
  k_with "my call builtin:bytes.join" => ((fail_if_success k_extra "z27"); ((k_here; first
  | (k_dflt (refine bytes_joinP _ _ (by k_asm) (by k_asm) (by k_mem) (by rfl) (by assumption) (Nat.ne_of_beq_eq_false rfl) (names_small (by assumption) (by assumption) (by assumption) (by assumption)) ?_); (intro t' tk'))
  | (k_dflt (refine bytes_joinP [(_, _), (_, _), (_, _), (_, _), (_, _), (_, _), (_, _)] [_, _, _, _, _, _, _] (by k_asm) (by k_asm) (by k_mem) (by rfl) (by rfl) (Nat.ne_of_beq_eq_false rfl) (rep_small (by assumption) (by assumption) (by assumption) (by assumption)) ?_); (intro t' tk')))))
  trivial
set_option maxHeartbeats 8000000 in
theorem cur_ok (w : World) (p : Program) (loose : List Str) (mean : ExcName → Option Value) (mg mb : Str → Option Value) (A : SA) (T : ST) (r c : Int) (σ : SV) (hS : ScrOK w A T c σ) (hG : Good σ r c) (hr : r ≤ 9) (hc : c ≤ 9) :
    Cr w p loose mean mg mb 14 133 [.ref A.s] (scrL w A T r c σ) (fun v l => (∃ t', v = .bytes (joined #[59] (repParts σ)) t') ∧ l = []) := _root_.id <| by
  have hsh := hS.sh
  have hhd := handed_of hsh
  obtain ⟨g1, g2, g3, g4, g5, g6, g7, g8, g9, g10, g11, g12, g13, g14, g15, g16⟩ := hG
  have c1 : 0 ≤ σ.row + 1 := by omega
  have c2 : σ.row + 1 ≤ 9 := by omega
  have c3 : 0 ≤ σ.col + 1 := by omega
  have c4 : σ.col + 1 ≤ 9 := by omega
  have c5 : σ.lf ≤ 9 := by omega
  have c6 : σ.rt ≤ 9 := by omega
  clear g1 g2 g3 g4 g8 g10 g11 hr hc
  k_dflt (refine' Cr.of_body (binds := [(("screen" : Str), .ref A.s)]) ?k6 ?k7 ?k9 ?kB ?c2 ?c3 ?c4 ?c5 ?_; (case k6 => k_is); (case k7 => k_is); (case k9 => exact rfl); (case kB => exact locs rfl); (case c2 => exact rfl); (case c3 => exact rfl); (case c4 => exact rfl); (case c5 => decide))
  intro dp un gd outer A₀ base g L h tk gs dr os Q B X Tp F N lL hd hu hQ
  revert hS hsh hhd g5 g6 g7 g9 g12 g13 g14 g15 g16 c1 c2 c3 c4 c5 c6 B X Tp F N lL hd hu hQ
  revert w p loose mean mg mb A T r c σ dp un gd outer A₀ base g L h tk gs dr os Q
  k_extra "my d14"; intros w p loose mean mg mb A T r c σ dp un gd; k_extra "my of"
  k_extra "my d8"; intros outer A₀ base g L h tk gs; k_extra "my of"
  k_extra "my d3"; intros dr os Q; k_extra "my of"
  intros hS hsh hhd g5 g6 g7 g9 g12 g13 g14 g15 g16 c1 c2 c3 c4 c5 c6 B X Tp F N lL hd hu hQ
  haveI mk : Mark := Mark.mk
  try k_lt lL
  k_extra "my kclose"
  k_extra "my ks2"
  refine' hQ (.ret _) _ [] _ _ _ ?ff ?nn ?sub ?ap ⟨⟨_, rfl⟩, rfl⟩
  case ff => assumption
  case nn => assumption
  case sub => (try simp only [List.cons_append, List.nil_append]); kcf_all
  case ap => exact List.forall_mem_nil _
end
section
theorem kw_WDsg_0 : True := by
  k_with "z27" => skip
  k_with "my e0" => ((fail_if_success k_extra "z28"); ((refine' code_defR dis ?k1_73 ?k2_73 ?k3_73 ?k4_73 ?k5_73 ?kA_73 ?kF_73 ?kK_73 ?k6_73 ?k7_73 ?k8_73 ?k9_73 ?kB_73 ?_ ?c2_73 ?c3_73 ?c4_73 ?c5_73; (case kA_73 => exact rfl); (case kF_73 => exact rfl); (case kK_73 => first | assumption | exact rfl); (case k1_73 => k_asm); (case k2_73 => k_asm); (case k3_73 => k_asm); (case k4_73 => k_asm); (case k5_73 => k_asm); (case k6_73 => k_is); (case k7_73 => k_is); (case k8_73 => k_room); (case k9_73 => first | exact BindsTo.of_eq rfl | exact binds_K (by k_in) rfl (by k_is) rfl rfl rfl); (case c5_73 => decide); (case kB_73 => exact locs rfl); (case c2_73 => exact rfl); (case c3_73 => exact rfl); (case c4_73 => exact rfl); k_whole; intro g' L' h' FG' F' N' B' X' T' kp lL; have lLs := lt_small lL; (try k_lt lLs); (try dsimp only); (try k_lift B'); (try k_fold))))
  trivial
theorem six_any {items : Array Value} {b : Array UInt8} (h : (sixB.all fun b => items.any (bytEq b)) = true) (hb : b ∈ sixB) : items.any (bytEq b) = true := List.all_eq_true.mp h b hb
theorem kw_WDsg_1 : True := by
  k_with "my compareOp NotIn bytes ref" => ((fail_if_success k_extra "z28"); ((k_here; (with_unfolding_all refine notin_bytK (r := true) (by assumption) (by assumption) (by k_is) (by rfl) (by rfl) (by decide +kernel) (six_any (by decide +kernel) (by assumption)) ?_))))
  trivial
set_option maxHeartbeats 4000000 in
theorem desig_0 (w : World) (p : Program) (loose : List Str) (mean : ExcName → Option Value) (mg mb : Str → Option Value) (A : SA) (T : ST) (σ : SV) (t tb : Tok) (b : Array UInt8) (hb : b ∈ sixB) (v0 v1 v2 v3 : Value) (k : Nat) (h1 : @LT.lt Nat _ A.chd A.ch) (h2 : @LT.lt Nat _ A.ch A.nm) :
    Cq w p loose mean mg mb 4 346 [.ref A.ch, .int 0 t, .bytes b tb] [(A.ch, instObj 392 A.chd), (A.chd, chO w A T σ), (A.nm, W.listOf #[v0, v1, v2, v3] k)] (fun v l => v = .bool true ∧ l = [(A.ch, instObj 392 A.chd), (A.chd, chO w A T σ), (A.nm, W.listOf #[.bytes b tb, v1, v2, v3] k)]) := _root_.id <| by
  intro rest dis dp un gd cn cs a ccd cl outer A₀ base h₀ L m s Q E B F X N Tp hk hd hu hr
  refine wpAny_call ?_
  k_dflt k_extra "my e0"
  k_steps
  refine' hr _ _ ⟨rfl, rfl⟩ ?ap _ _ ?ff ?nn
  case ff => assumption
  case nn =>
    refine kept_join (by assumption) (by assumption) (by assumption) (by assumption) ?_
    try simp only [List.cons_append, List.nil_append]
    kcf_all
  case ap =>
    refine kept_apart (by assumption) (by assumption) ?_
    try simp only [List.cons_append, List.nil_append]
    kcf_all
  all_goals first | assumption | omega
set_option maxHeartbeats 4000000 in
theorem desig_1 (w : World) (p : Program) (loose : List Str) (mean : ExcName → Option Value) (mg mb : Str → Option Value) (A : SA) (T : ST) (σ : SV) (t tb : Tok) (b : Array UInt8) (hb : b ∈ sixB) (v0 v1 v2 v3 : Value) (k : Nat) (h1 : @LT.lt Nat _ A.chd A.ch) (h2 : @LT.lt Nat _ A.ch A.nm) :
    Cq w p loose mean mg mb 4 346 [.ref A.ch, .int 1 t, .bytes b tb] [(A.ch, instObj 392 A.chd), (A.chd, chO w A T σ), (A.nm, W.listOf #[v0, v1, v2, v3] k)] (fun v l => v = .bool true ∧ l = [(A.ch, instObj 392 A.chd), (A.chd, chO w A T σ), (A.nm, W.listOf #[v0, .bytes b tb, v2, v3] k)]) := _root_.id <| by
  intro rest dis dp un gd cn cs a ccd cl outer A₀ base h₀ L m s Q E B F X N Tp hk hd hu hr
  refine wpAny_call ?_
  k_dflt k_extra "my e0"
  k_steps
  refine' hr _ _ ⟨rfl, rfl⟩ ?ap _ _ ?ff ?nn
  case ff => assumption
  case nn =>
    refine kept_join (by assumption) (by assumption) (by assumption) (by assumption) ?_
    try simp only [List.cons_append, List.nil_append]
    kcf_all
  case ap =>
    refine kept_apart (by assumption) (by assumption) ?_
    try simp only [List.cons_append, List.nil_append]
    kcf_all
  all_goals first | assumption | omega
set_option maxHeartbeats 4000000 in
theorem desig_2 (w : World) (p : Program) (loose : List Str) (mean : ExcName → Option Value) (mg mb : Str → Option Value) (A : SA) (T : ST) (σ : SV) (t tb : Tok) (b : Array UInt8) (hb : b ∈ sixB) (v0 v1 v2 v3 : Value) (k : Nat) (h1 : @LT.lt Nat _ A.chd A.ch) (h2 : @LT.lt Nat _ A.ch A.nm) :
    Cq w p loose mean mg mb 4 346 [.ref A.ch, .int 2 t, .bytes b tb] [(A.ch, instObj 392 A.chd), (A.chd, chO w A T σ), (A.nm, W.listOf #[v0, v1, v2, v3] k)] (fun v l => v = .bool true ∧ l = [(A.ch, instObj 392 A.chd), (A.chd, chO w A T σ), (A.nm, W.listOf #[v0, v1, .bytes b tb, v3] k)]) := _root_.id <| by
  intro rest dis dp un gd cn cs a ccd cl outer A₀ base h₀ L m s Q E B F X N Tp hk hd hu hr
  refine wpAny_call ?_
  k_dflt k_extra "my e0"
  k_steps
  refine' hr _ _ ⟨rfl, rfl⟩ ?ap _ _ ?ff ?nn
  case ff => assumption
  case nn =>
    refine kept_join (by assumption) (by assumption) (by assumption) (by assumption) ?_
    try simp only [List.cons_append, List.nil_append]
    kcf_all
  case ap =>
    refine kept_apart (by assumption) (by assumption) ?_
    try simp only [List.cons_append, List.nil_append]
    kcf_all
  all_goals first | assumption | omega
set_option maxHeartbeats 4000000 in
theorem desig_3 (w : World) (p : Program) (loose : List Str) (mean : ExcName → Option Value) (mg mb : Str → Option Value) (A : SA) (T : ST) (σ : SV) (t tb : Tok) (b : Array UInt8) (hb : b ∈ sixB) (v0 v1 v2 v3 : Value) (k : Nat) (h1 : @LT.lt Nat _ A.chd A.ch) (h2 : @LT.lt Nat _ A.ch A.nm) :
    Cq w p loose mean mg mb 4 346 [.ref A.ch, .int 3 t, .bytes b tb] [(A.ch, instObj 392 A.chd), (A.chd, chO w A T σ), (A.nm, W.listOf #[v0, v1, v2, v3] k)] (fun v l => v = .bool true ∧ l = [(A.ch, instObj 392 A.chd), (A.chd, chO w A T σ), (A.nm, W.listOf #[v0, v1, v2, .bytes b tb] k)]) := _root_.id <| by
  intro rest dis dp un gd cn cs a ccd cl outer A₀ base h₀ L m s Q E B F X N Tp hk hd hu hr
  refine wpAny_call ?_
  k_dflt k_extra "my e0"
  k_steps
  refine' hr _ _ ⟨rfl, rfl⟩ ?ap _ _ ?ff ?nn
  case ff => assumption
  case nn =>
    refine kept_join (by assumption) (by assumption) (by assumption) (by assumption) ?_
    try simp only [List.cons_append, List.nil_append]
    kcf_all
  case ap =>
    refine kept_apart (by assumption) (by assumption) ?_
    try simp only [List.cons_append, List.nil_append]
    kcf_all
  all_goals first | assumption | omega
theorem Cq.upd {w : World} {p : Program} {loose : List Str} {mean : ExcName → Option Value} {mg mb : Str → Option Value} {D : Nat} {f : Addr} {vs : List Value} (ro : Led) {d : Addr} {o : Obj} {news : Led} {g : Obj → Led} {P : Value → Led → Prop} {dp un : Nat} {gd : Option (List Code)} {cn : Str} {cs : Scope} {a : Addr} {ccd : Value} {cl : List (Str × Addr)} {outer : List Env} {A₀ : Around} {base h₀ : Heap} {L : Addr} {m : Str → Option Value} {s : Shared} {Q E : Value → Shared → Prop}
    (C : Cq w p loose mean mg mb D f vs (ro ++ [(d, o)]) P) (hro : ∀ q ∈ ro, q ∈ news) (U : UpdF d o news g) (B : Below A₀ base outer h₀) (F : Fr h₀ L s.heap m) (X : (KK w.params).In h₀) (N : News h₀ L s.heap news) (T : Top p loose mean mg mb h₀) (hk : cs.kind = .function) (hd : dp + D < recursionLimit) (hu : un + 100 * D < cLine)
    (r : ∀ v l, P v l → ∃ o', l = ro ++ [(d, o')] ∧ ∀ h' tk', Fr h₀ L h' m → News h₀ L h' (g o') → Q v { s with heap := h', toks := tk' }) :
    wpAny (model pw w) (ktrTop dp un gd cn cs L a ccd cl outer) (call (.ref f) vs) Q E s := by
  have same : ∀ {x : Addr} {ox oy : Obj}, (x, ox) ∈ news → (x, oy) ∈ news → ox = oy := fun h h' => Option.some.inj ((N _ h).1.symm.trans (N _ h').1)
  have dis : Apart (ro ++ [(d, o)]) (news.filter fun p => decide (p.1 ∉ (ro ++ [(d, o)]).map (·.1))) := fun p hp q hq e => by
    have := of_decide_eq_true (List.mem_filter.mp hp).2
    exact this (List.mem_map.mpr ⟨q, hq, e.symm⟩)
  refine Cq.use (news.filter fun p => decide (p.1 ∉ (ro ++ [(d, o)]).map (·.1))) C dis (fun p hp => ?_) B F X N T hk hd hu ?_
  · rcases List.mem_append.mp hp with hp | hp
    · rcases List.mem_append.mp hp with hp | hp
      · exact hro p hp
      · rw [List.mem_singleton.mp hp]; exact UpdF.own U
    · exact (List.mem_filter.mp hp).1
  · intro v l hP ap h' tk' F' N'
    obtain ⟨o', rfl, k⟩ := r v l hP
    refine k h' tk' F' fun p hp => ?_
    rcases UpdF.mem U hp with rfl | ⟨hp, hne⟩
    · exact N' _ (List.mem_append_left _ (List.mem_append_right _ (.head _)))
    · by_cases e : p.1 ∈ (ro ++ [(d, o)]).map (·.1)
      · obtain ⟨q, hq, e⟩ := List.mem_map.mp e
        rcases List.mem_append.mp hq with hq | hq
        · have h1 := hro q hq
          have e2 : q = p := Prod.ext e (same (x := q.1) h1 (by rw [e]; exact hp))
          exact N' _ (List.mem_append_left _ (List.mem_append_left _ (e2 ▸ hq)))
        · rw [List.mem_singleton.mp hq] at e
          exact absurd e.symm hne
      · exact N' _ (List.mem_append_right _ (List.mem_filter.mpr ⟨hp, decide_eq_true e⟩))
theorem desig_use_0 {A : SA} {T : ST} {σ : SV} {t tb : Tok} {b : Array UInt8} {v0 v1 v2 v3 : Value} {k : Nat} {g : Obj → Led} {w : World} {p : Program} {loose : List Str} {mean : ExcName → Option Value} {mg mb : Str → Option Value} {news : Led} {dp un : Nat} {gd : Option (List Code)} {cn : Str} {cs : Scope} {a : Addr} {ccd : Value} {cl : List (Str × Addr)} {outer : List Env} {A₀ : Around} {base h₀ : Heap} {L : Addr} {m : Str → Option Value} {s : Shared} {Q E : Value → Shared → Prop} (hb : b ∈ sixB) (h1 : @LT.lt Nat _ A.chd A.ch) (h2 : @LT.lt Nat _ A.ch A.nm) (m1 : (A.ch, instObj 392 A.chd) ∈ news) (m2 : (A.chd, chO w A T σ) ∈ news) (U : UpdF A.nm (W.listOf #[v0, v1, v2, v3] k) news g)
    (B : Below A₀ base outer h₀) (F : Fr h₀ L s.heap m) (X : (KK w.params).In h₀) (N : News h₀ L s.heap news) (Tp : Top p loose mean mg mb h₀) (hk : cs.kind = .function) (hd : dp + 4 < recursionLimit) (hu : un + 100 * 4 < cLine)
    (r : ∀ h' tk', Fr h₀ L h' m → News h₀ L h' (g (W.listOf #[.bytes b tb, v1, v2, v3] k)) → Q ( .bool true) { s with heap := h', toks := tk' }) :
    wpAny (model pw w) (ktrTop dp un gd cn cs L a ccd cl outer) (call (.ref 346) [.ref A.ch, .int 0 t, .bytes b tb]) Q E s :=
  Cq.upd [(A.ch, instObj 392 A.chd), (A.chd, chO w A T σ)] (desig_0 w p loose mean mg mb A T σ t tb b hb v0 v1 v2 v3 k h1 h2) (List.forall_mem_cons.mpr ⟨m1, List.forall_mem_cons.mpr ⟨m2, List.forall_mem_nil _⟩⟩) U B F X N Tp hk hd hu
    (by rintro v l ⟨rfl, rfl⟩; exact ⟨_, rfl, r⟩)
theorem desig_use_1 {A : SA} {T : ST} {σ : SV} {t tb : Tok} {b : Array UInt8} {v0 v1 v2 v3 : Value} {k : Nat} {g : Obj → Led} {w : World} {p : Program} {loose : List Str} {mean : ExcName → Option Value} {mg mb : Str → Option Value} {news : Led} {dp un : Nat} {gd : Option (List Code)} {cn : Str} {cs : Scope} {a : Addr} {ccd : Value} {cl : List (Str × Addr)} {outer : List Env} {A₀ : Around} {base h₀ : Heap} {L : Addr} {m : Str → Option Value} {s : Shared} {Q E : Value → Shared → Prop} (hb : b ∈ sixB) (h1 : @LT.lt Nat _ A.chd A.ch) (h2 : @LT.lt Nat _ A.ch A.nm) (m1 : (A.ch, instObj 392 A.chd) ∈ news) (m2 : (A.chd, chO w A T σ) ∈ news) (U : UpdF A.nm (W.listOf #[v0, v1, v2, v3] k) news g)
    (B : Below A₀ base outer h₀) (F : Fr h₀ L s.heap m) (X : (KK w.params).In h₀) (N : News h₀ L s.heap news) (Tp : Top p loose mean mg mb h₀) (hk : cs.kind = .function) (hd : dp + 4 < recursionLimit) (hu : un + 100 * 4 < cLine)
    (r : ∀ h' tk', Fr h₀ L h' m → News h₀ L h' (g (W.listOf #[v0, .bytes b tb, v2, v3] k)) → Q ( .bool true) { s with heap := h', toks := tk' }) :
    wpAny (model pw w) (ktrTop dp un gd cn cs L a ccd cl outer) (call (.ref 346) [.ref A.ch, .int 1 t, .bytes b tb]) Q E s :=
  Cq.upd [(A.ch, instObj 392 A.chd), (A.chd, chO w A T σ)] (desig_1 w p loose mean mg mb A T σ t tb b hb v0 v1 v2 v3 k h1 h2) (List.forall_mem_cons.mpr ⟨m1, List.forall_mem_cons.mpr ⟨m2, List.forall_mem_nil _⟩⟩) U B F X N Tp hk hd hu
    (by rintro v l ⟨rfl, rfl⟩; exact ⟨_, rfl, r⟩)
theorem desig_use_2 {A : SA} {T : ST} {σ : SV} {t tb : Tok} {b : Array UInt8} {v0 v1 v2 v3 : Value} {k : Nat} {g : Obj → Led} {w : World} {p : Program} {loose : List Str} {mean : ExcName → Option Value} {mg mb : Str → Option Value} {news : Led} {dp un : Nat} {gd : Option (List Code)} {cn : Str} {cs : Scope} {a : Addr} {ccd : Value} {cl : List (Str × Addr)} {outer : List Env} {A₀ : Around} {base h₀ : Heap} {L : Addr} {m : Str → Option Value} {s : Shared} {Q E : Value → Shared → Prop} (hb : b ∈ sixB) (h1 : @LT.lt Nat _ A.chd A.ch) (h2 : @LT.lt Nat _ A.ch A.nm) (m1 : (A.ch, instObj 392 A.chd) ∈ news) (m2 : (A.chd, chO w A T σ) ∈ news) (U : UpdF A.nm (W.listOf #[v0, v1, v2, v3] k) news g)
    (B : Below A₀ base outer h₀) (F : Fr h₀ L s.heap m) (X : (KK w.params).In h₀) (N : News h₀ L s.heap news) (Tp : Top p loose mean mg mb h₀) (hk : cs.kind = .function) (hd : dp + 4 < recursionLimit) (hu : un + 100 * 4 < cLine)
    (r : ∀ h' tk', Fr h₀ L h' m → News h₀ L h' (g (W.listOf #[v0, v1, .bytes b tb, v3] k)) → Q ( .bool true) { s with heap := h', toks := tk' }) :
    wpAny (model pw w) (ktrTop dp un gd cn cs L a ccd cl outer) (call (.ref 346) [.ref A.ch, .int 2 t, .bytes b tb]) Q E s :=
  Cq.upd [(A.ch, instObj 392 A.chd), (A.chd, chO w A T σ)] (desig_2 w p loose mean mg mb A T σ t tb b hb v0 v1 v2 v3 k h1 h2) (List.forall_mem_cons.mpr ⟨m1, List.forall_mem_cons.mpr ⟨m2, List.forall_mem_nil _⟩⟩) U B F X N Tp hk hd hu
    (by rintro v l ⟨rfl, rfl⟩; exact ⟨_, rfl, r⟩)
theorem desig_use_3 {A : SA} {T : ST} {σ : SV} {t tb : Tok} {b : Array UInt8} {v0 v1 v2 v3 : Value} {k : Nat} {g : Obj → Led} {w : World} {p : Program} {loose : List Str} {mean : ExcName → Option Value} {mg mb : Str → Option Value} {news : Led} {dp un : Nat} {gd : Option (List Code)} {cn : Str} {cs : Scope} {a : Addr} {ccd : Value} {cl : List (Str × Addr)} {outer : List Env} {A₀ : Around} {base h₀ : Heap} {L : Addr} {m : Str → Option Value} {s : Shared} {Q E : Value → Shared → Prop} (hb : b ∈ sixB) (h1 : @LT.lt Nat _ A.chd A.ch) (h2 : @LT.lt Nat _ A.ch A.nm) (m1 : (A.ch, instObj 392 A.chd) ∈ news) (m2 : (A.chd, chO w A T σ) ∈ news) (U : UpdF A.nm (W.listOf #[v0, v1, v2, v3] k) news g)
    (B : Below A₀ base outer h₀) (F : Fr h₀ L s.heap m) (X : (KK w.params).In h₀) (N : News h₀ L s.heap news) (Tp : Top p loose mean mg mb h₀) (hk : cs.kind = .function) (hd : dp + 4 < recursionLimit) (hu : un + 100 * 4 < cLine)
    (r : ∀ h' tk', Fr h₀ L h' m → News h₀ L h' (g (W.listOf #[v0, v1, v2, .bytes b tb] k)) → Q ( .bool true) { s with heap := h', toks := tk' }) :
    wpAny (model pw w) (ktrTop dp un gd cn cs L a ccd cl outer) (call (.ref 346) [.ref A.ch, .int 3 t, .bytes b tb]) Q E s :=
  Cq.upd [(A.ch, instObj 392 A.chd), (A.chd, chO w A T σ)] (desig_3 w p loose mean mg mb A T σ t tb b hb v0 v1 v2 v3 k h1 h2) (List.forall_mem_cons.mpr ⟨m1, List.forall_mem_cons.mpr ⟨m2, List.forall_mem_nil _⟩⟩) U B F X N Tp hk hd hu
    (by rintro v l ⟨rfl, rfl⟩; exact ⟨_, rfl, r⟩)
end
section
theorem kw_WCls_0 : True := by
  k_with "z28" => skip
  k_with "my kfold" => ((fail_if_success k_extra "z29"); skip)
  k_with "my e0" => ((fail_if_success k_extra "z29"); ((refine' code_defR (apart2 dis l1 l2) ?k1_75 ?k2_75 ?k3_75 ?k4_75 ?k5_75 ?kA_75 ?kF_75 ?kK_75 ?k6_75 ?k7_75 ?k8_75 ?k9_75 ?kB_75 ?_ ?c2_75 ?c3_75 ?c4_75 ?c5_75; (case kA_75 => exact rfl); (case kF_75 => exact rfl); (case kK_75 => first | assumption | exact rfl); (case k1_75 => k_asm); (case k2_75 => k_asm); (case k3_75 => k_asm); (case k4_75 => exact N'); (case k5_75 => k_asm); (case k6_75 => k_is); (case k7_75 => k_is); (case k8_75 => k_room); (case k9_75 => first | exact BindsTo.of_eq rfl | exact binds_K (by k_in) rfl (by k_is) rfl rfl rfl); (case c5_75 => decide); (case kB_75 => exact locs rfl); (case c2_75 => exact rfl); (case c3_75 => exact rfl); (case c4_75 => exact rfl); k_whole; intro g' L' h' FG' F' N' B' X' T' kp lL; have lLs := lt_small lL; (try k_lt lLs); (try dsimp only); (try k_lift B'))))
  k_with "my kf" => ((fail_if_success k_extra "z29"); (k_extra "my kclose"))
  trivial
set_option maxHeartbeats 8000000 in
theorem cursor_new (w : World) (p : Program) (loose : List Str) (mean : ExcName → Option Value) (mg mb : Str → Option Value) (rest : Led) :
    Cl w p loose mean mg mb 4 441 [] ([] ++ rest) (fun K => ∀ cu cud (t0 t1 t2 t3 t4 t5 u0 u1 : Tok), (∀ p ∈ [] ++ rest, p.1 < cud) → @LT.lt Nat _ cud cu → K (.ref cu) ([(cu, instObj 441 cud), (cud, dictOf [en w "row" t0 (.int 0 u0), en w "column" t1 (.int 0 u1), en w "is_waiting" t2 (.bool false), en w "pen" t3 (.ref 22), en w "is_origin" t4 (.bool false), en w "is_guarding" t5 (.bool false)] 6)] ++ rest)) := _root_.id <| by
  have dis := nil_apart rest
  intro dp un gd cn cs a ccd cl outer A₀ base h₀ L m s Q E B F X N Tp hk hd hu hr
  revert dis B F X N Tp hk hd hu hr
  revert w p loose mean mg mb rest dp un gd cn cs a ccd cl outer A₀ base h₀ L m s Q E
  k_extra "my d14"; intros w p loose mean mg mb rest dp un gd cn cs a ccd; k_extra "my of"
  k_extra "my d8"; intros cl outer A₀ base h₀ L m s; k_extra "my of"
  k_extra "my d2"; intros Q E; k_extra "my of"
  intros dis B F X N Tp hk hd hu hr
  haveI mk : Mark := Mark.mk
  k_dflt (refine' call_cls ?k1 ?k2 ?k3 ?k4 ?k5 ?k6 ?_; (case k1 => k_asm); (case k2 => k_asm); (case k3 => k_asm); (case k4 => k_is); (case k5 => k_is); (case k6 => k_is); k_whole; intro x' d' h' F' N' l1 l2)
  replace N' := News.cons2 N'
  have l1s := lt_small l1
  k_lt l1s
  k_lt2 l2
  k_dflt k_extra "my e0"
  k_extra "my kclose"
  k_extra "my ks2"
  refine' hr _ _ _ _ _ _ _ _ _ _ ?o ?a _ _ ?ff ?nn
  case ff => assumption
  case nn =>
    refine kept_join (by assumption) (by assumption) (by assumption) (by assumption) ?_
    kcf_all
  all_goals first | assumption | omega
set_option maxHeartbeats 8000000 in
theorem margins_new (w : World) (p : Program) (loose : List Str) (mean : ExcName → Option Value) (mg mb : Str → Option Value) (r c : Int) (t1 t2 : Tok) (rest : Led) :
    Cl w p loose mean mg mb 4 574 [.int r t1, .int c t2] ([] ++ rest) (fun K => ∀ g, K (.ref g) ([] ++ rest)) := _root_.id <| by
  have dis := nil_apart rest
  intro dp un gd cn cs a ccd cl outer A₀ base h₀ L m s Q E B F X N Tp hk hd hu hr
  revert dis B F X N Tp hk hd hu hr
  revert w p loose mean mg mb r c t1 t2 rest dp un gd cn cs a ccd cl outer A₀ base h₀ L m s Q E
  k_extra "my d14"; intros w p loose mean mg mb r c t1 t2 rest dp un gd; k_extra "my of"
  k_extra "my d14"; intros cn cs a ccd cl outer A₀ base h₀ L m s Q E; k_extra "my of"
  intros dis B F X N Tp hk hd hu hr
  haveI mk : Mark := Mark.mk
  k_dflt (refine' call_cls ?k1 ?k2 ?k3 ?k4 ?k5 ?k6 ?_; (case k1 => k_asm); (case k2 => k_asm); (case k3 => k_asm); (case k4 => k_is); (case k5 => k_is); (case k6 => k_is); k_whole; intro x' d' h' F' N' l1 l2)
  replace N' := News.cons2 N'
  have l1s := lt_small l1
  k_lt l1s
  k_lt2 l2
  k_dflt k_extra "my e0"
  k_extra "my kclose"
  k_extra "my ks2"
  refine' hr _ _ _ ?ff ?nn
  case ff => assumption
  case nn =>
    refine kept_join (by assumption) (by assumption) (by assumption) (by assumption) ?_
    kcf_all
set_option maxHeartbeats 8000000 in
theorem charsets_new (w : World) (p : Program) (loose : List Str) (mean : ExcName → Option Value) (mg mb : Str → Option Value) (rest : Led) :
    Cl w p loose mean mg mb 6 392 [] ([] ++ rest) (fun K => ∀ ch chd nm (t0 t1 t2 t3 t4 u2 u3 w1 w2 : Tok) (made : Value) (k : Nat), (∀ p ∈ [] ++ rest, p.1 < chd) → @LT.lt Nat _ chd ch → @LT.lt Nat _ ch nm → K (.ref ch) ([(ch, instObj 392 chd), (chd, dictOf [en w "made" t0 made, en w "names" t1 (.ref nm), en w "left" t2 (.int 0 u2), en w "right" t3 (.int 2 u3), en w "shift" t4 .none] 5), (nm, W.listOf #[.bytes #[66] w1, .bytes #[66] w1, .bytes #[37, 53] w2, .bytes #[37, 53] w2] k)] ++ rest)) := _root_.id <| by
  have dis := nil_apart rest
  intro dp un gd cn cs a ccd cl outer A₀ base h₀ L m s Q E B F X N Tp hk hd hu hr
  revert dis B F X N Tp hk hd hu hr
  revert w p loose mean mg mb rest dp un gd cn cs a ccd cl outer A₀ base h₀ L m s Q E
  k_extra "my d14"; intros w p loose mean mg mb rest dp un gd cn cs a ccd; k_extra "my of"
  k_extra "my d8"; intros cl outer A₀ base h₀ L m s; k_extra "my of"
  k_extra "my d2"; intros Q E; k_extra "my of"
  intros dis B F X N Tp hk hd hu hr
  haveI mk : Mark := Mark.mk
  k_dflt (refine' call_cls ?k1 ?k2 ?k3 ?k4 ?k5 ?k6 ?_; (case k1 => k_asm); (case k2 => k_asm); (case k3 => k_asm); (case k4 => k_is); (case k5 => k_is); (case k6 => k_is); k_whole; intro x' d' h' F' N' l1 l2)
  replace N' := News.cons2 N'
  have l1s := lt_small l1
  k_lt l1s
  k_lt2 l2
  k_dflt k_extra "my e0"
  k_extra "my kclose"
  k_extra "my ks2"
  refine' hr _ _ _ _ _ _ _ _ _ _ _ _ _ _ ?o ?a ?b _ _ ?ff ?nn
  case ff => assumption
  case nn =>
    refine kept_join (by assumption) (by assumption) (by assumption) (by assumption) ?_
    kcf_all
  all_goals first | assumption | omega
end
section
noncomputable def sv0 : SV := ⟨0, 0, 0, 0, 0, 0, 0, 0, 2, false, false, false, false, #[66], #[66], #[37, 53], #[37, 53], none⟩
noncomputable abbrev scr0 (w : World) (A : SA) (T : ST) (r c : Int) : Led :=
  [(A.s, instObj 1271 A.sd), (A.sd, scO w A T r c), (A.cu, instObj 441 A.cud), (A.cud, cuO w A T sv0), (A.tg, instObj 673 A.td), (A.td, tdO w A T c), (A.st, T.ost), (A.ch, instObj 392 A.chd), (A.chd, chO w A T sv0), (A.nm, nmO T sv0)]
structure New0 (w : World) (A : SA) (T : ST) (c : Int) (mo : Addr) (rest : Led) : Prop where
  mo : A.mo = mo
  shv : T.shv = .none
  ost : T.ost.IsDictOf (intKind pw w) (stopsOf c)
  o3 : ∀ p ∈ rest, p.1 < A.sd
  o4 : @LT.lt Nat _ A.sd A.s
  o5 : @LT.lt Nat _ A.s A.cud
  o6 : @LT.lt Nat _ A.cud A.cu
  o7 : @LT.lt Nat _ A.cu A.td
  o8 : @LT.lt Nat _ A.td A.tg
  o9 : @LT.lt Nat _ A.tg A.st
  o10 : @LT.lt Nat _ A.st A.chd
  o11 : @LT.lt Nat _ A.chd A.ch
  o12 : @LT.lt Nat _ A.ch A.nm
theorem kw_WScn_0 : True := by
  k_with "z29" => skip
  k_with "my kfold" => ((fail_if_success k_extra "z30"); skip)
  k_with "my kf" => ((fail_if_success k_extra "z30"); (k_extra "my kclose"))
  k_with "my call ref" => ((fail_if_success k_extra "z30"); ((k_here; (with_reducible show wpAny _ _ (call (Value.ref 987) _) _ _ _); k_dflt (refine' Cl.use (grid_ok _ _ _ _ _ _ _ _ _ _ _ ?p1_78 ?p2_78 ?p3_78 ?p4_78) ?B_78 ?F_78 ?X_78 ?N_78 ?T_78 ?hk_78 ?hd_78 ?hu_78 ?_; (case p1_78 => omega); (case p2_78 => omega); (case p3_78 => omega); (case p4_78 => omega); (case B_78 => assumption); (case F_78 => k_asm); (case X_78 => assumption); (case N_78 => k_asm); (case T_78 => assumption); (case hk_78 => rfl); (case hd_78 => ktr_room); (case hu_78 => ktr_units)); intro gr h' tk' F' N')))
  k_with "my call ref" => ((fail_if_success k_extra "z30"); ((k_here; (with_reducible show wpAny _ _ (call (Value.ref 673) _) _ _ _); k_dflt (refine' Cl.use (tabs_new _ _ _ _ _ _ _ _ _ ?p1_79) ?B_79 ?F_79 ?X_79 ?N_79 ?T_79 ?hk_79 ?hd_79 ?hu_79 ?_; (case p1_79 => assumption); (case B_79 => assumption); (case F_79 => k_asm); (case X_79 => assumption); (case N_79 => k_asm); (case T_79 => assumption); (case hk_79 => rfl); (case hd_79 => ktr_room); (case hu_79 => ktr_units)); intro tg td st ost tt0 tt1 tl1 tl2 tl3 hdS h' tk' F' N'; k_lt tl1; k_lt2 tl2; k_lt2 tl3)))
  k_with "my call ref" => ((fail_if_success k_extra "z30"); ((k_here; (with_reducible show wpAny _ _ (call (Value.ref 441) _) _ _ _); k_dflt (refine' Cl.use (cursor_new _ _ _ _ _ _ _) ?B_80 ?F_80 ?X_80 ?N_80 ?T_80 ?hk_80 ?hd_80 ?hu_80 ?_; (case B_80 => assumption); (case F_80 => k_asm); (case X_80 => assumption); (case N_80 => k_asm); (case T_80 => assumption); (case hk_80 => rfl); (case hd_80 => ktr_room); (case hu_80 => ktr_units)); intro cu cud tc0 tc1 tc2 tc3 tc4 tc5 uc0 uc1 vl1 vl2 h' tk' F' N'; (try simp only [List.cons_append, List.nil_append] at N' vl1); (try k_lt vl1); k_lt2 vl2)))
  k_with "my call ref" => ((fail_if_success k_extra "z30"); ((k_here; (with_reducible show wpAny _ _ (call (Value.ref 574) _) _ _ _); k_dflt (refine' Cl.use (margins_new _ _ _ _ _ _ _ _ _ _ _) ?B_81 ?F_81 ?X_81 ?N_81 ?T_81 ?hk_81 ?hd_81 ?hu_81 ?_; (case B_81 => assumption); (case F_81 => k_asm); (case X_81 => assumption); (case N_81 => k_asm); (case T_81 => assumption); (case hk_81 => rfl); (case hd_81 => ktr_room); (case hu_81 => ktr_units)); intro gm h' tk' F' N'; (try simp only [List.cons_append, List.nil_append] at N' vl1); skip)))
  k_with "my call ref" => ((fail_if_success k_extra "z30"); ((k_here; (with_reducible show wpAny _ _ (call (Value.ref 392) _) _ _ _); k_dflt (refine' Cl.use (charsets_new _ _ _ _ _ _ _) ?B_82 ?F_82 ?X_82 ?N_82 ?T_82 ?hk_82 ?hd_82 ?hu_82 ?_; (case B_82 => assumption); (case F_82 => k_asm); (case X_82 => assumption); (case N_82 => k_asm); (case T_82 => assumption); (case hk_82 => rfl); (case hd_82 => ktr_room); (case hu_82 => ktr_units)); intro ch chd nm th0 th1 th2 th3 th4 uh2 uh3 wh1 wh2 mdh kh vl1 vl2 vl3 h' tk' F' N'; (try simp only [List.cons_append, List.nil_append] at N' vl1); (try k_lt vl1); k_lt2 vl2; k_lt2 vl3)))
  trivial
theorem New0.all {w : World} {A : SA} {T : ST} {c : Int} {mo : Addr} {rest : Led} (N : New0 w A T c mo rest) : @LT.lt Nat _ A.sd A.cud ∧ @LT.lt Nat _ A.sd A.chd ∧ @LT.lt Nat _ A.sd A.nm ∧ @LT.lt Nat _ A.s A.cud ∧ @LT.lt Nat _ A.s A.chd ∧ @LT.lt Nat _ A.s A.nm ∧ @LT.lt Nat _ A.cud A.cu ∧ @LT.lt Nat _ A.cud A.td ∧ @LT.lt Nat _ A.cud A.tg ∧ @LT.lt Nat _ A.cud A.st ∧ @LT.lt Nat _ A.cud A.chd ∧ @LT.lt Nat _ A.cud A.ch ∧ @LT.lt Nat _ A.cud A.nm ∧ @LT.lt Nat _ A.cu A.chd ∧ @LT.lt Nat _ A.cu A.nm ∧ @LT.lt Nat _ A.td A.chd ∧ @LT.lt Nat _ A.td A.nm ∧ @LT.lt Nat _ A.tg A.chd ∧ @LT.lt Nat _ A.tg A.nm ∧ @LT.lt Nat _ A.st A.chd ∧ @LT.lt Nat _ A.st A.nm ∧ @LT.lt Nat _ A.chd A.ch ∧ @LT.lt Nat _ A.chd A.nm ∧ @LT.lt Nat _ A.ch A.nm ∧ True := by
  have h4 := N.o4
  have h5 := N.o5
  have h6 := N.o6
  have h7 := N.o7
  have h8 := N.o8
  have h9 := N.o9
  have h10 := N.o10
  have h11 := N.o11
  have h12 := N.o12
  have q4_5 := Nat.lt_trans h4 h5
  have q4_6 := Nat.lt_trans q4_5 h6
  have q4_7 := Nat.lt_trans q4_6 h7
  have q4_8 := Nat.lt_trans q4_7 h8
  have q4_9 := Nat.lt_trans q4_8 h9
  have q4_10 := Nat.lt_trans q4_9 h10
  have q4_11 := Nat.lt_trans q4_10 h11
  have q4_12 := Nat.lt_trans q4_11 h12
  have q5_6 := Nat.lt_trans h5 h6
  have q5_7 := Nat.lt_trans q5_6 h7
  have q5_8 := Nat.lt_trans q5_7 h8
  have q5_9 := Nat.lt_trans q5_8 h9
  have q5_10 := Nat.lt_trans q5_9 h10
  have q5_11 := Nat.lt_trans q5_10 h11
  have q5_12 := Nat.lt_trans q5_11 h12
  have q6_7 := Nat.lt_trans h6 h7
  have q6_8 := Nat.lt_trans q6_7 h8
  have q6_9 := Nat.lt_trans q6_8 h9
  have q6_10 := Nat.lt_trans q6_9 h10
  have q6_11 := Nat.lt_trans q6_10 h11
  have q6_12 := Nat.lt_trans q6_11 h12
  have q7_8 := Nat.lt_trans h7 h8
  have q7_9 := Nat.lt_trans q7_8 h9
  have q7_10 := Nat.lt_trans q7_9 h10
  have q7_11 := Nat.lt_trans q7_10 h11
  have q7_12 := Nat.lt_trans q7_11 h12
  have q8_9 := Nat.lt_trans h8 h9
  have q8_10 := Nat.lt_trans q8_9 h10
  have q8_11 := Nat.lt_trans q8_10 h11
  have q8_12 := Nat.lt_trans q8_11 h12
  have q9_10 := Nat.lt_trans h9 h10
  have q9_11 := Nat.lt_trans q9_10 h11
  have q9_12 := Nat.lt_trans q9_11 h12
  have q10_11 := Nat.lt_trans h10 h11
  have q10_12 := Nat.lt_trans q10_11 h12
  have q11_12 := Nat.lt_trans h11 h12
  refine ⟨?_, ?_, ?_, ?_, ?_, ?_, ?_, ?_, ?_, ?_, ?_, ?_, ?_, ?_, ?_, ?_, ?_, ?_, ?_, ?_, ?_, ?_, ?_, ?_, trivial⟩ <;> assumption
theorem New0.l_s {w : World} {A : SA} {T : ST} {c : Int} {mo : Addr} {rest : Led} (N : New0 w A T c mo rest) : ∀ p ∈ rest, p.1 < A.s := fun p hp => Nat.lt_trans (N.o3 p hp) N.o4
theorem New0.l_cud {w : World} {A : SA} {T : ST} {c : Int} {mo : Addr} {rest : Led} (N : New0 w A T c mo rest) : ∀ p ∈ rest, p.1 < A.cud := fun p hp => Nat.lt_trans (N.l_s p hp) N.o5
theorem New0.l_cu {w : World} {A : SA} {T : ST} {c : Int} {mo : Addr} {rest : Led} (N : New0 w A T c mo rest) : ∀ p ∈ rest, p.1 < A.cu := fun p hp => Nat.lt_trans (N.l_cud p hp) N.o6
theorem New0.l_td {w : World} {A : SA} {T : ST} {c : Int} {mo : Addr} {rest : Led} (N : New0 w A T c mo rest) : ∀ p ∈ rest, p.1 < A.td := fun p hp => Nat.lt_trans (N.l_cu p hp) N.o7
theorem New0.l_tg {w : World} {A : SA} {T : ST} {c : Int} {mo : Addr} {rest : Led} (N : New0 w A T c mo rest) : ∀ p ∈ rest, p.1 < A.tg := fun p hp => Nat.lt_trans (N.l_td p hp) N.o8
theorem New0.l_st {w : World} {A : SA} {T : ST} {c : Int} {mo : Addr} {rest : Led} (N : New0 w A T c mo rest) : ∀ p ∈ rest, p.1 < A.st := fun p hp => Nat.lt_trans (N.l_tg p hp) N.o9
theorem New0.l_chd {w : World} {A : SA} {T : ST} {c : Int} {mo : Addr} {rest : Led} (N : New0 w A T c mo rest) : ∀ p ∈ rest, p.1 < A.chd := fun p hp => Nat.lt_trans (N.l_st p hp) N.o10
theorem New0.l_ch {w : World} {A : SA} {T : ST} {c : Int} {mo : Addr} {rest : Led} (N : New0 w A T c mo rest) : ∀ p ∈ rest, p.1 < A.ch := fun p hp => Nat.lt_trans (N.l_chd p hp) N.o11
theorem New0.l_nm {w : World} {A : SA} {T : ST} {c : Int} {mo : Addr} {rest : Led} (N : New0 w A T c mo rest) : ∀ p ∈ rest, p.1 < A.nm := fun p hp => Nat.lt_trans (N.l_ch p hp) N.o12
set_option maxHeartbeats 8000000 in
theorem scr_new (w : World) (p : Program) (loose : List Str) (mean : ExcName → Option Value) (mg mb : Str → Option Value) (r c : Int) (t1 t2 : Tok) (mo wi : Addr) (rest : Led) (hr1 : 1 ≤ r) (hr2 : r ≤ 9) (hc : c = 9 ∨ c = 6) :
    Cl w p loose mean mg mb 16 1271 [.int r t1, .int c t2, .ref mo, .ref wi, .none] ([] ++ rest) (fun K => ∀ A T, New0 w A T c mo rest → K (.ref A.s) (scr0 w A T r c ++ rest)) := _root_.id <| by
  have dis := nil_apart rest
  intro dp un gd cn cs a ccd cl outer A₀ base h₀ L m s Q E B F X N Tp hk hd hu hr
  revert hr1 hr2 hc dis B F X N Tp hk hd hu hr
  revert w p loose mean mg mb r c t1 t2 mo wi rest dp un gd cn cs a ccd cl outer A₀ base h₀ L m s Q E
  k_extra "my d14"; intros w p loose mean mg mb r c t1 t2 mo wi rest dp; k_extra "my of"
  k_extra "my d14"; intros un gd cn cs a ccd cl outer A₀ base h₀ L m s; k_extra "my of"
  k_extra "my d2"; intros Q E; k_extra "my of"
  intros hr1 hr2 hc dis B F X N Tp hk hd hu hr
  haveI mk : Mark := Mark.mk
  k_dflt (refine' call_cls ?k1 ?k2 ?k3 ?k4 ?k5 ?k6 ?_; (case k1 => k_asm); (case k2 => k_asm); (case k3 => k_asm); (case k4 => k_is); (case k5 => k_is); (case k6 => k_is); k_whole; intro x' d' h' F' N' l1 l2)
  replace N' := News.cons2 N'
  have l1s := lt_small l1
  k_lt l1s
  k_lt2 l2
  k_dflt (refine' code_defR (apart2 dis l1 l2) ?k1 ?k2 ?k3 ?k4 ?k5 ?kA ?kF ?kK ?k6 ?k7 ?k8 ?k9 ?kB ?_ ?c2 ?c3 ?c4 ?c5; (case kA => exact rfl); (case kF => exact rfl); (case kK => first | assumption | exact rfl); (case k1 => k_asm); (case k2 => k_asm); (case k3 => k_asm); (case k4 => exact N'); (case k5 => k_asm); (case k6 => k_is); (case k7 => k_is); (case k8 => k_room); (case k9 => first | exact BindsTo.of_eq rfl | exact binds_K (by k_in) rfl (by k_is) rfl rfl rfl); (case c5 => decide); (case kB => exact locs rfl); (case c2 => exact rfl); (case c3 => exact rfl); (case c4 => exact rfl); k_whole; intro g' L' h' FG' F' N' B' X' T' kp lL; have lLs := lt_small lL; (try k_lt lLs); (try dsimp only); (try k_lift B'))
  k_extra "my kclose"
  k_extra "my ks2"
  refine' hr (SA.mk _ _ _ _ _ _ _ _ _ _ mo 0 0 22) (ST.mk _ _ _ _ _ _ _ _ _ _ _ _ _ _ _ _ _ _ _ _ _ _ _ _ _ _ _ _ _ _ _ _ _ _ _ _ _ 0 0 0 0 0 0 0 _ _ _ _ _ _ _ _ (.none) (.none) _ default _) ⟨rfl, rfl, ?ost, ?o3, ?o4, ?o5, ?o6, ?o7, ?o8, ?o9, ?o10, ?o11, ?o12⟩ _ _ ?ff ?nn
  case ff => assumption
  case nn =>
    refine kept_join (by assumption) (by assumption) (by assumption) (by assumption) ?_
    kcf_all
  case o3 => exact fun p hp => (by assumption : ∀ p ∈ [] ++ rest, p.1 < _) p hp
  all_goals first | assumption | (dsimp only; omega)
end
section
theorem sh_ok {v : Int} (h1 : 1 < v) (h2 : v < 4) : some v = none ∨ some v = some 2 ∨ some v = some 3 := by
  have : v = 2 ∨ v = 3 := by omega
  rcases this with rfl | rfl
  · exact .inr (.inl rfl)
  · exact .inr (.inr rfl)
theorem fl_ok {ns : List Int} {x : Int} (h : ∀ z ∈ ns, 0 ≤ z ∧ z ≤ 128) (hl : ns.length = 6) (h0 : 0 ≤ x) (h3 : x ≤ 3) : 0 ≤ ns.sum + x * 512 ∧ ns.sum + x * 512 < 4096 := by
  have h1 := sum_top h
  rw [hl] at h1
  omega
theorem scr_pack {w : World} {A0 : SA} {T0 : ST} {r cc : Int} {all : Led} {row col fl q1 q2 q3 q4 lf rt : Int} {t6 t7 p0 p1 p2 p3 p4 e5 e6 n0 n1 n2 n3 m0 m1 : Tok} {wt og gd : Bool} {b0 b1 b2 b3 : Array UInt8} {shv kp : Value} {pn md ss : Addr} {oss : Obj} {k : Nat} (sh : Option Int)
    (h1 : (A0.s, instObj 1271 A0.sd) ∈ all) (h2 : (A0.sd, scO w A0 T0 r cc) ∈ all) (h3 : (A0.cu, instObj 441 A0.cud) ∈ all)
    (h4 : (A0.cud, dictOf [en w "row" T0.c0 (.int row t6), en w "column" T0.c1 (.int col t7), en w "is_waiting" T0.c2 (.bool wt), en w "pen" T0.c3 (.ref pn), en w "is_origin" T0.c4 (.bool og), en w "is_guarding" T0.c5 (.bool gd)] 6) ∈ all)
    (h5 : (A0.tg, instObj 673 A0.td) ∈ all) (h6 : (A0.td, tdO w A0 T0 cc) ∈ all) (h7 : (A0.st, T0.ost) ∈ all) (h8 : (A0.ch, instObj 392 A0.chd) ∈ all)
    (h9 : (A0.chd, dictOf [en w "made" T0.e0 T0.made, en w "names" T0.e1 (.ref A0.nm), en w "left" T0.e2 (.int lf e5), en w "right" T0.e3 (.int rt e6), en w "shift" T0.e4 shv] 5) ∈ all)
    (h10 : (A0.nm, W.listOf #[.bytes b0 n0, .bytes b1 n1, .bytes b2 n2, .bytes b3 n3] k) ∈ all)
    (h11 : (A0.mo, instObj 198 md) ∈ all) (h12 : (md, dictOf [en w "states" m0 (.ref ss), en w "kept" m1 kp] 2) ∈ all) (h13 : (ss, oss) ∈ all)
    (h14 : (pn, tupV [.int fl p0, .int q1 p1, .int q2 p2, .int q3 p3, .int q4 p4]) ∈ all)
    (hoss : oss.IsDictOf (strKind pw w) (modeL (some og))) (host : T0.ost.IsDictOf (intKind pw w) (stopsOf cc)) (hsh : ShIs shv sh)
    (o1 : @LT.lt Nat _ md A0.mo) (o2 : @LT.lt Nat _ A0.mo ss) (o3 : @LT.lt Nat _ ss A0.sd) (o4 : @LT.lt Nat _ A0.sd A0.s) (o5 : @LT.lt Nat _ A0.s A0.cud) (o6 : @LT.lt Nat _ A0.cud A0.cu) (o7 : @LT.lt Nat _ A0.cu A0.td) (o8 : @LT.lt Nat _ A0.td A0.tg) (o9 : @LT.lt Nat _ A0.tg A0.st) (o10 : @LT.lt Nat _ A0.st A0.chd) (o11 : @LT.lt Nat _ A0.chd A0.ch) (o12 : @LT.lt Nat _ A0.ch A0.nm) (o13 : @LT.lt Nat _ A0.nm pn)
    (g1 : 0 ≤ row) (g2 : row < r) (g3 : 0 ≤ col) (g4 : col < cc) (g5 : 0 ≤ fl ∧ fl < 4096) (g7 : 0 ≤ lf) (g8 : lf < 4) (g9 : 0 ≤ rt) (g10 : rt < 4) (g11 : b0 ∈ sixB) (g12 : b1 ∈ sixB) (g13 : b2 ∈ sixB) (g14 : b3 ∈ sixB) (g15 : sh = none ∨ sh = some 2 ∨ sh = some 3) :
    ∃ A σ T, A.s = A0.s ∧ A.md = md ∧ (∀ p ∈ scrL w A T r cc σ, p ∈ all) ∧ ScrOK w A T cc σ ∧ Good σ r cc := by
  refine ⟨{ A0 with md := md, ss := ss, pn := pn }, ⟨row, col, fl, q1, q2, q3, q4, lf, rt, wt, og, gd, og, b0, b1, b2, b3, sh⟩, { T0 with c6 := t6, c7 := t7, e5 := e5, e6 := e6, n0 := n0, n1 := n1, n2 := n2, n3 := n3, m0 := m0, m1 := m1, p0 := p0, p1 := p1, p2 := p2, p3 := p3, p4 := p4, shv := shv, kp := kp, k := k, oss := oss }, rfl, rfl, ?_, ⟨hoss, host, hsh, o1, o2, o3, o4, o5, o6, o7, o8, o9, o10, o11, o12, o13⟩, ⟨g1, g2, g3, g4, g5.1, g5.2, g7, g8, g9, g10, rfl, g11, g12, g13, g14, g15⟩⟩
  intro p hp
  simp only [scrL, List.mem_cons, List.not_mem_nil, or_false] at hp
  rcases hp with rfl | rfl | rfl | rfl | rfl | rfl | rfl | rfl | rfl | rfl | rfl | rfl | rfl | rfl <;> assumption
theorem pack_end {w : World} {A0 : SA} {T0 : ST} {r cc : Int} {all : Led} {row col fl q1 q2 q3 q4 lf rt : Int} {t6 t7 p0 p1 p2 p3 p4 e5 e6 n0 n1 n2 n3 m0 m1 : Tok} {wt og gd : Bool} {b0 b1 b2 b3 : Array UInt8} {shv kp : Value} {pn md ss : Addr} {oss : Obj} {k : Nat} {d c : Addr} {n : Nat} {od oc od' oc' : Obj} {rest : Led} {h₀ g : Heap} {h' : Heap} {L L' : Addr} {m m' : Str → Option Value} {s : Shared} {tk : Nat} {Q : Value → Shared → Prop} (sh : Option Int)
    (hr : ∀ v l, (∃ A σ T od' oc', v = .ref (SA.s A) ∧ l = scrL w A T r cc σ ++ [(d, od'), (c, oc')] ∧ ScrOK w A T cc σ ∧ Good σ r cc ∧ @LT.lt Nat _ c A.md ∧ Deck w c (n + 23) od' oc') → Apart l rest → ∀ h' tk', Fr h₀ L h' m → News h₀ L h' (l ++ rest) → Q v { s with heap := h', toks := tk' })
    (N : News h₀ L s.heap ([(d, od), (c, oc)] ++ rest)) (kpt : Kept g rest) (F' : Fr g L' h' m') (N' : News g L' h' all) (kF : Fr h₀ L h' m) (kN : News h₀ L h' all) (hd : (d, od') ∈ all) (hc : (c, oc') ∈ all) (hD : Deck w c (n + 23) od' oc') (hdm : @LT.lt Nat _ c md)
    (h1 : (A0.s, instObj 1271 A0.sd) ∈ all) (h2 : (A0.sd, scO w A0 T0 r cc) ∈ all) (h3 : (A0.cu, instObj 441 A0.cud) ∈ all)
    (h4 : (A0.cud, dictOf [en w "row" T0.c0 (.int row t6), en w "column" T0.c1 (.int col t7), en w "is_waiting" T0.c2 (.bool wt), en w "pen" T0.c3 (.ref pn), en w "is_origin" T0.c4 (.bool og), en w "is_guarding" T0.c5 (.bool gd)] 6) ∈ all)
    (h5 : (A0.tg, instObj 673 A0.td) ∈ all) (h6 : (A0.td, tdO w A0 T0 cc) ∈ all) (h7 : (A0.st, T0.ost) ∈ all) (h8 : (A0.ch, instObj 392 A0.chd) ∈ all)
    (h9 : (A0.chd, dictOf [en w "made" T0.e0 T0.made, en w "names" T0.e1 (.ref A0.nm), en w "left" T0.e2 (.int lf e5), en w "right" T0.e3 (.int rt e6), en w "shift" T0.e4 shv] 5) ∈ all)
    (h10 : (A0.nm, W.listOf #[.bytes b0 n0, .bytes b1 n1, .bytes b2 n2, .bytes b3 n3] k) ∈ all)
    (h11 : (A0.mo, instObj 198 md) ∈ all) (h12 : (md, dictOf [en w "states" m0 (.ref ss), en w "kept" m1 kp] 2) ∈ all) (h13 : (ss, oss) ∈ all)
    (h14 : (pn, tupV [.int fl p0, .int q1 p1, .int q2 p2, .int q3 p3, .int q4 p4]) ∈ all)
    (hoss : oss.IsDictOf (strKind pw w) (modeL (some og))) (host : T0.ost.IsDictOf (intKind pw w) (stopsOf cc)) (hsh : ShIs shv sh)
    (o1 : @LT.lt Nat _ md A0.mo) (o2 : @LT.lt Nat _ A0.mo ss) (o3 : @LT.lt Nat _ ss A0.sd) (o4 : @LT.lt Nat _ A0.sd A0.s) (o5 : @LT.lt Nat _ A0.s A0.cud) (o6 : @LT.lt Nat _ A0.cud A0.cu) (o7 : @LT.lt Nat _ A0.cu A0.td) (o8 : @LT.lt Nat _ A0.td A0.tg) (o9 : @LT.lt Nat _ A0.tg A0.st) (o10 : @LT.lt Nat _ A0.st A0.chd) (o11 : @LT.lt Nat _ A0.chd A0.ch) (o12 : @LT.lt Nat _ A0.ch A0.nm) (o13 : @LT.lt Nat _ A0.nm pn)
    (g1 : 0 ≤ row) (g2 : row < r) (g3 : 0 ≤ col) (g4 : col < cc) (g5 : 0 ≤ fl ∧ fl < 4096) (g7 : 0 ≤ lf) (g8 : lf < 4) (g9 : 0 ≤ rt) (g10 : rt < 4) (g11 : b0 ∈ sixB) (g12 : b1 ∈ sixB) (g13 : b2 ∈ sixB) (g14 : b3 ∈ sixB) (g15 : sh = none ∨ sh = some 2 ∨ sh = some 3) :
    Q (.ref A0.s) { s with heap := h', toks := tk } := by
  obtain ⟨A, σ, T, es, em, sub, ok, gd⟩ := scr_pack sh h1 h2 h3 h4 h5 h6 h7 h8 h9 h10 h11 h12 h13 h14 hoss host hsh o1 o2 o3 o4 o5 o6 o7 o8 o9 o10 o11 o12 o13 g1 g2 g3 g4 g5 g7 g8 g9 g10 g11 g12 g13 g14 g15
  have sub' : ∀ p ∈ scrL w A T r cc σ ++ [(d, od'), (c, oc')], p ∈ all := fun p hp => by
    rcases List.mem_append.mp hp with hp | hp
    · exact sub p hp
    · simp only [List.mem_cons, List.not_mem_nil, or_false] at hp
      rcases hp with rfl | rfl <;> assumption
  exact hr _ _ ⟨A, σ, T, od', oc', by rw [es], rfl, ok, gd, em ▸ hdm, hD⟩ (kept_apart kpt N' sub') h' tk kF (kept_join N kpt F' kN sub')
theorem pack_end_s {w : World} {A0 : SA} {T0 : ST} {r cc : Int} {all : Led} {row col fl q1 q2 q3 q4 lf rt : Int} {t6 t7 p0 p1 p2 p3 p4 e5 e6 n0 n1 n2 n3 m0 m1 : Tok} {wt og gd : Bool} {b0 b1 b2 b3 : Array UInt8} {kp : Value} {pn md ss : Addr} {oss : Obj} {k : Nat} {d c : Addr} {n : Nat} {od oc od' oc' : Obj} {rest : Led} {h₀ g : Heap} {h' : Heap} {L L' : Addr} {m m' : Str → Option Value} {s : Shared} {tk : Nat} {Q : Value → Shared → Prop} {x : Int} {e7 : Tok}
    (hr : ∀ v l, (∃ A σ T od' oc', v = .ref (SA.s A) ∧ l = scrL w A T r cc σ ++ [(d, od'), (c, oc')] ∧ ScrOK w A T cc σ ∧ Good σ r cc ∧ @LT.lt Nat _ c A.md ∧ Deck w c (n + 23) od' oc') → Apart l rest → ∀ h' tk', Fr h₀ L h' m → News h₀ L h' (l ++ rest) → Q v { s with heap := h', toks := tk' })
    (N : News h₀ L s.heap ([(d, od), (c, oc)] ++ rest)) (kpt : Kept g rest) (F' : Fr g L' h' m') (N' : News g L' h' all) (kF : Fr h₀ L h' m) (kN : News h₀ L h' all) (hd : (d, od') ∈ all) (hc : (c, oc') ∈ all) (hD : Deck w c (n + 23) od' oc') (hdm : @LT.lt Nat _ c md)
    (h1 : (A0.s, instObj 1271 A0.sd) ∈ all) (h2 : (A0.sd, scO w A0 T0 r cc) ∈ all) (h3 : (A0.cu, instObj 441 A0.cud) ∈ all)
    (h4 : (A0.cud, dictOf [en w "row" T0.c0 (.int row t6), en w "column" T0.c1 (.int col t7), en w "is_waiting" T0.c2 (.bool wt), en w "pen" T0.c3 (.ref pn), en w "is_origin" T0.c4 (.bool og), en w "is_guarding" T0.c5 (.bool gd)] 6) ∈ all)
    (h5 : (A0.tg, instObj 673 A0.td) ∈ all) (h6 : (A0.td, tdO w A0 T0 cc) ∈ all) (h7 : (A0.st, T0.ost) ∈ all) (h8 : (A0.ch, instObj 392 A0.chd) ∈ all)
    (h9 : (A0.chd, dictOf [en w "made" T0.e0 T0.made, en w "names" T0.e1 (.ref A0.nm), en w "left" T0.e2 (.int lf e5), en w "right" T0.e3 (.int rt e6), en w "shift" T0.e4 (.int x e7)] 5) ∈ all)
    (h10 : (A0.nm, W.listOf #[.bytes b0 n0, .bytes b1 n1, .bytes b2 n2, .bytes b3 n3] k) ∈ all)
    (h11 : (A0.mo, instObj 198 md) ∈ all) (h12 : (md, dictOf [en w "states" m0 (.ref ss), en w "kept" m1 kp] 2) ∈ all) (h13 : (ss, oss) ∈ all)
    (h14 : (pn, tupV [.int fl p0, .int q1 p1, .int q2 p2, .int q3 p3, .int q4 p4]) ∈ all)
    (hoss : oss.IsDictOf (strKind pw w) (modeL (some og))) (host : T0.ost.IsDictOf (intKind pw w) (stopsOf cc))
    (o1 : @LT.lt Nat _ md A0.mo) (o2 : @LT.lt Nat _ A0.mo ss) (o3 : @LT.lt Nat _ ss A0.sd) (o4 : @LT.lt Nat _ A0.sd A0.s) (o5 : @LT.lt Nat _ A0.s A0.cud) (o6 : @LT.lt Nat _ A0.cud A0.cu) (o7 : @LT.lt Nat _ A0.cu A0.td) (o8 : @LT.lt Nat _ A0.td A0.tg) (o9 : @LT.lt Nat _ A0.tg A0.st) (o10 : @LT.lt Nat _ A0.st A0.chd) (o11 : @LT.lt Nat _ A0.chd A0.ch) (o12 : @LT.lt Nat _ A0.ch A0.nm) (o13 : @LT.lt Nat _ A0.nm pn)
    (g1 : 0 ≤ row) (g2 : row < r) (g3 : 0 ≤ col) (g4 : col < cc) (g5 : 0 ≤ fl ∧ fl < 4096) (g7 : 0 ≤ lf) (g8 : lf < 4) (g9 : 0 ≤ rt) (g10 : rt < 4) (g11 : b0 ∈ sixB) (g12 : b1 ∈ sixB) (g13 : b2 ∈ sixB) (g14 : b3 ∈ sixB) (g15 : 1 < x) (g16 : x < 4) :
    Q (.ref A0.s) { s with heap := h', toks := tk } :=
  pack_end (some x) hr N kpt F' N' kF kN hd hc hD hdm h1 h2 h3 h4 h5 h6 h7 h8 h9 h10 h11 h12 h13 h14 hoss host ⟨e7, rfl⟩ o1 o2 o3 o4 o5 o6 o7 o8 o9 o10 o11 o12 o13 g1 g2 g3 g4 g5 g7 g8 g9 g10 g11 g12 g13 g14 (sh_ok g15 g16)
theorem pack_end_n {w : World} {A0 : SA} {T0 : ST} {r cc : Int} {all : Led} {row col fl q1 q2 q3 q4 lf rt : Int} {t6 t7 p0 p1 p2 p3 p4 e5 e6 n0 n1 n2 n3 m0 m1 : Tok} {wt og gd : Bool} {b0 b1 b2 b3 : Array UInt8} {shv kp : Value} {pn md ss : Addr} {oss : Obj} {k : Nat} {d c : Addr} {n : Nat} {od oc od' oc' : Obj} {rest : Led} {h₀ g : Heap} {h' : Heap} {L L' : Addr} {m m' : Str → Option Value} {s : Shared} {tk : Nat} {Q : Value → Shared → Prop}
    (hr : ∀ v l, (∃ A σ T od' oc', v = .ref (SA.s A) ∧ l = scrL w A T r cc σ ++ [(d, od'), (c, oc')] ∧ ScrOK w A T cc σ ∧ Good σ r cc ∧ @LT.lt Nat _ c A.md ∧ Deck w c (n + 23) od' oc') → Apart l rest → ∀ h' tk', Fr h₀ L h' m → News h₀ L h' (l ++ rest) → Q v { s with heap := h', toks := tk' })
    (N : News h₀ L s.heap ([(d, od), (c, oc)] ++ rest)) (kpt : Kept g rest) (F' : Fr g L' h' m') (N' : News g L' h' all) (kF : Fr h₀ L h' m) (kN : News h₀ L h' all) (hd : (d, od') ∈ all) (hc : (c, oc') ∈ all) (hD : Deck w c (n + 23) od' oc') (hdm : @LT.lt Nat _ c md)
    (h1 : (A0.s, instObj 1271 A0.sd) ∈ all) (h2 : (A0.sd, scO w A0 T0 r cc) ∈ all) (h3 : (A0.cu, instObj 441 A0.cud) ∈ all)
    (h4 : (A0.cud, dictOf [en w "row" T0.c0 (.int row t6), en w "column" T0.c1 (.int col t7), en w "is_waiting" T0.c2 (.bool wt), en w "pen" T0.c3 (.ref pn), en w "is_origin" T0.c4 (.bool og), en w "is_guarding" T0.c5 (.bool gd)] 6) ∈ all)
    (h5 : (A0.tg, instObj 673 A0.td) ∈ all) (h6 : (A0.td, tdO w A0 T0 cc) ∈ all) (h7 : (A0.st, T0.ost) ∈ all) (h8 : (A0.ch, instObj 392 A0.chd) ∈ all)
    (h9 : (A0.chd, dictOf [en w "made" T0.e0 T0.made, en w "names" T0.e1 (.ref A0.nm), en w "left" T0.e2 (.int lf e5), en w "right" T0.e3 (.int rt e6), en w "shift" T0.e4 shv] 5) ∈ all)
    (h10 : (A0.nm, W.listOf #[.bytes b0 n0, .bytes b1 n1, .bytes b2 n2, .bytes b3 n3] k) ∈ all)
    (h11 : (A0.mo, instObj 198 md) ∈ all) (h12 : (md, dictOf [en w "states" m0 (.ref ss), en w "kept" m1 kp] 2) ∈ all) (h13 : (ss, oss) ∈ all)
    (h14 : (pn, tupV [.int fl p0, .int q1 p1, .int q2 p2, .int q3 p3, .int q4 p4]) ∈ all)
    (hoss : oss.IsDictOf (strKind pw w) (modeL (some og))) (host : T0.ost.IsDictOf (intKind pw w) (stopsOf cc)) (hsh : shv = .none)
    (o1 : @LT.lt Nat _ md A0.mo) (o2 : @LT.lt Nat _ A0.mo ss) (o3 : @LT.lt Nat _ ss A0.sd) (o4 : @LT.lt Nat _ A0.sd A0.s) (o5 : @LT.lt Nat _ A0.s A0.cud) (o6 : @LT.lt Nat _ A0.cud A0.cu) (o7 : @LT.lt Nat _ A0.cu A0.td) (o8 : @LT.lt Nat _ A0.td A0.tg) (o9 : @LT.lt Nat _ A0.tg A0.st) (o10 : @LT.lt Nat _ A0.st A0.chd) (o11 : @LT.lt Nat _ A0.chd A0.ch) (o12 : @LT.lt Nat _ A0.ch A0.nm) (o13 : @LT.lt Nat _ A0.nm pn)
    (g1 : 0 ≤ row) (g2 : row < r) (g3 : 0 ≤ col) (g4 : col < cc) (g5 : 0 ≤ fl ∧ fl < 4096) (g7 : 0 ≤ lf) (g8 : lf < 4) (g9 : 0 ≤ rt) (g10 : rt < 4) (g11 : b0 ∈ sixB) (g12 : b1 ∈ sixB) (g13 : b2 ∈ sixB) (g14 : b3 ∈ sixB) :
    Q (.ref A0.s) { s with heap := h', toks := tk } :=
  pack_end none hr N kpt F' N' kF kN hd hc hD hdm h1 h2 h3 h4 h5 h6 h7 h8 h9 h10 h11 h12 h13 h14 hoss host hsh o1 o2 o3 o4 o5 o6 o7 o8 o9 o10 o11 o12 o13 g1 g2 g3 g4 g5 g7 g8 g9 g10 g11 g12 g13 g14 (.inl rfl)
end
section
noncomputable def frontL (l : Led) : Led := match l.reverse with | q :: p :: r => p :: q :: r.reverse | _ => l
theorem kw_WLScr_0 : True := by
  k_with "z30" => skip
  k_with "my kfold" => ((fail_if_success k_extra "z32"); skip)
  k_with "my kf" => ((fail_if_success k_extra "z32"); (k_extra "my kclose"))
  trivial
theorem news_front {h₀ h : Heap} {L : Addr} {l : Led} (N : News h₀ L h l) : News h₀ L h (frontL l) := fun x hx => N x (by
  unfold frontL at hx
  split at hx
  · rename_i q p r e
    have : l = r.reverse ++ [p, q] := by rw [← List.reverse_reverse l, e]; simp
    rw [this]
    simp only [List.mem_cons, List.mem_append, List.not_mem_nil, or_false] at hx ⊢
    rcases hx with h | h | h
    · exact .inr (.inl h)
    · exact .inr (.inr h)
    · exact .inl h
  · exact hx)
noncomputable def nthL : Led → Nat → Led → Led
  | [], _, a => a
  | p :: _, 0, a => p :: a
  | _ :: l, n + 1, a => nthL l n a
noncomputable def permL (l : Led) : List Nat → Led
  | [] => []
  | i :: r => nthL l i (permL l r)
theorem nthL_mem : ∀ (l : Led) (i : Nat) (a : Led), ∀ x ∈ nthL l i a, x ∈ l ∨ x ∈ a
  | [], _, _, x, h => .inr h
  | p :: l, 0, a, x, h => (List.mem_cons.mp h).imp (fun e => List.mem_cons.mpr (.inl e)) id
  | p :: l, n + 1, a, x, h => (nthL_mem l n a x h).imp (List.mem_cons_of_mem _) id
theorem news_perm {h₀ h : Heap} {L : Addr} {l : Led} (is : List Nat) (N : News h₀ L h l) : News h₀ L h (permL l is) := fun x hx => N x (by
  induction is with
  | nil => exact nomatch hx
  | cons i r ih => exact (nthL_mem l i _ x hx).elim id ih)
theorem news_d3 {w : World} {h₀ h : Heap} {L d c : Addr} {n : Nat} {od oc : Obj} {x : Addr × Obj} {l : Led} (_ : Deck w c n od oc) (N : News h₀ L h (x :: (d, od) :: (c, oc) :: l)) : News h₀ L h ((d, od) :: (c, oc) :: x :: l) := fun y hy => N y (by
  simp only [List.mem_cons] at hy ⊢
  rcases hy with h | h | h | h
  · exact .inr (.inl h)
  · exact .inr (.inr (.inl h))
  · exact .inl h
  · exact .inr (.inr (.inr h)))
theorem lt_two {w : World} {d c x : Addr} {n : Nat} {od oc : Obj} {l : Led} (_ : Deck w c n od oc) (h : ∀ p ∈ (d, od) :: (c, oc) :: l, p.1 < x) : @LT.lt Nat _ d x ∧ @LT.lt Nat _ c x := ⟨h (d, od) (.head _), h (c, oc) (.tail _ (.head _))⟩
noncomputable def OffA (a : Addr) (R : List Addr) : Prop := ∀ x ∈ R, @Ne Nat x a
theorem OffA.ne {a : Addr} {R : List Addr} {l : Led} (h : OffA a R) (e : l.map (·.1) = R) : ∀ p ∈ l, @Ne Nat p.1 a := fun p hp => h p.1 (e ▸ List.mem_map.mpr ⟨p, hp, rfl⟩)
theorem OffA.mk {a : Addr} {l : Led} (h : ∀ p ∈ l, @Ne Nat p.1 a) : OffA a (l.map (·.1)) := fun x hx => by
  obtain ⟨p, hp, rfl⟩ := List.mem_map.mp hx
  exact h p hp
theorem offA_d {h₀ h : Heap} {L d : Addr} {od : Obj} {y : Addr × Obj} {l : Led} (_ : News h₀ L h ((d, od) :: y :: l)) (k : ∀ p ∈ l, @Ne Nat p.1 d) : OffA d (l.map (·.1)) := .mk k
theorem offA_c {h₀ h : Heap} {L c : Addr} {oc : Obj} {x : Addr × Obj} {l : Led} (_ : News h₀ L h (x :: (c, oc) :: l)) (k : ∀ p ∈ l, @Ne Nat p.1 c) : OffA c (l.map (·.1)) := .mk k
theorem offA_u {h₀ h : Heap} {L u : Addr} {ou : Obj} {x y : Addr × Obj} {l : Led} (_ : News h₀ L h (x :: y :: (u, ou) :: l)) (k : ∀ p ∈ l, @Ne Nat p.1 u) : OffA u (l.map (·.1)) := .mk k
theorem headO {d : Addr} {o : Obj} {l : Led} {R : List Addr} (h : OffA d R) (e : l.map (·.1) = R) : UpdF d o ((d, o) :: l) (fun o' => (d, o') :: l) := UpdF.head (h.ne e)
theorem headO1 {d x : Addr} {o ox : Obj} {l : Led} {R : List Addr} (n : @Ne Nat x d) (h : OffA d R) (e : l.map (·.1) = R) : UpdF d o ((d, o) :: (x, ox) :: l) (fun o' => (d, o') :: (x, ox) :: l) := UpdF.head (List.forall_mem_cons.mpr ⟨n, h.ne e⟩)
theorem headO2 {d x y : Addr} {o ox oy : Obj} {l : Led} {R : List Addr} (n : @Ne Nat x d) (k : @Ne Nat y d) (h : OffA d R) (e : l.map (·.1) = R) : UpdF d o ((d, o) :: (x, ox) :: (y, oy) :: l) (fun o' => (d, o') :: (x, ox) :: (y, oy) :: l) := UpdF.head (List.forall_mem_cons.mpr ⟨n, List.forall_mem_cons.mpr ⟨k, h.ne e⟩⟩)
theorem kw_WLScr_1 : True := by
  k_with "my kupdF" => ((fail_if_success k_extra "z32"); ((first | (refine' headO ?ud_84 ?ue_84; (case ud_84 => with_reducible assumption); (case ue_84 => exact rfl)) | (refine' headO1 ?uc_84 ?ud_84 ?ue_84; (case ud_84 => with_reducible assumption); (case ue_84 => exact rfl); (case uc_84 => k_ne)) | (refine' headO2 ?ub_84 ?uc_84 ?ud_84 ?ue_84; (case ud_84 => with_reducible assumption); (case ue_84 => exact rfl); (case ub_84 => k_ne); (case uc_84 => k_ne)) | (refine' UpdF.head ?ua_84; (case ua_84 => k_all)) | (refine' UpdF.tail ?ua_84 ?ub_84; (case ua_84 => k_ne); (case ub_84 => k_updF)))))
  k_with "my kall0" => ((fail_if_success k_extra "z32"); ((repeat (first | exact List.forall_mem_nil _ | refine List.forall_mem_cons.mpr ⟨by k_ne, ?_⟩))))
  k_with "my newList" => ((fail_if_success k_extra "z32"); ((k_here; k_dflt (refine' newList_K ?k1_86 ?k2_86 ?_; (case k1_86 => k_asm); (case k2_86 => k_asm); k_whole); intro l' h' F' N' l1; (first | (replace l1 := lt_two (by assumption) l1; (obtain ⟨_, _⟩ := l1)) | (try k_lt l1)); (try k_sweep))))
  trivial
theorem apart_lt {l rest : Led} (a : Apart l rest) : Apart l rest := a
noncomputable def inB (lo hi : Int) : Value → Bool | .int x _ => decide (lo ≤ x) && decide (x ≤ hi) | _ => false
theorem pick_int (lo hi : Int) {vs : List Value} {i : Nat} {v : Value} (h : vs.all (inB lo hi) = true) (e : vs[i]? = some v) : ∃ x t, v = .int x t ∧ lo ≤ x ∧ x ≤ hi := by
  have hv := List.all_eq_true.mp h v (List.mem_of_getElem? e)
  cases v <;> try (simp [inB] at hv; done)
  simp only [inB, Bool.and_eq_true, decide_eq_true_eq] at hv
  exact ⟨_, _, rfl, hv.1, hv.2⟩
noncomputable def isSix : Value → Bool | .bytes b _ => decide (b ∈ sixB) | _ => false
theorem pick_intE {vs : List Value} {i : Nat} {v : Value} (e : vs[i]? = some v) (lo hi : Int) (h : vs.all (inB lo hi) = true) : ∃ x t, v = .int x t ∧ lo ≤ x ∧ x ≤ hi := pick_int lo hi h e
theorem pick_2 {a b : Int} {t1 t2 : Tok} {i : Nat} {v : Value} (e : [Value.int a t1, .int b t2][i]? = some v) : ∃ x t, v = .int x t := by
  have hv := List.mem_of_getElem? e
  simp only [List.mem_cons, List.not_mem_nil, or_false] at hv
  rcases hv with rfl | rfl <;> exact ⟨_, _, rfl⟩
theorem pick_sixL {t1 t2 t3 t4 t5 t6 : Tok} {i : Nat} {v : Value} (e : [Value.bytes #[66] t1, .bytes #[48] t2, .bytes #[65] t3, .bytes #[60] t4, .bytes #[37, 53] t5, .bytes #[45, 65] t6][i]? = some v) : ∃ x t, v = .bytes x t ∧ x ∈ sixB := by
  have hv := List.mem_of_getElem? e
  simp only [List.mem_cons, List.not_mem_nil, or_false] at hv
  rcases hv with rfl | rfl | rfl | rfl | rfl | rfl <;> exact ⟨_, _, rfl, by simp [sixB]⟩
theorem kw_WLScr_2 : True := by
  k_with "my UnrEnd" => ((fail_if_success k_extra "z32"); ((k_here; first | (refine unr_end_head (by assumption) (by assumption) (by k_all) ?_) | (refine unr_end_head (by assumption) (News.tl (by assumption)) (by k_all) ?_) | (refine unr_end_head (by assumption) (News.tl (News.tl (by assumption))) (by k_all) ?_) | (refine unr_end_head (by assumption) (News.tl (News.tl (News.tl (by assumption)))) (by k_all) ?_))))
  k_with "my call ref" => ((fail_if_success k_extra "z32"); ((k_here; (with_reducible show wpAny _ _ (call (Value.ref 198) _) _ _ _); k_dflt (refine' Cl.use (modes_new _ _ _ _ _ _ _) ?B_88 ?F_88 ?X_88 ?N_88 ?T_88 ?hk_88 ?hd_88 ?hu_88 ?_; (case B_88 => assumption); (case F_88 => k_asm); (case X_88 => assumption); (case N_88 => k_asm); (case T_88 => assumption); (case hk_88 => rfl); (case hd_88 => ktr_room); (case hu_88 => ktr_units)); intro mo md ss oss tm0 tm1 kpM om0 om1 om2 hdM h' tk' F' N'; (try simp only [List.cons_append, List.nil_append] at N' om0); (try k_lt om0))))
  k_with "my call ref" => ((fail_if_success k_extra "z32"); ((k_here; (with_reducible show wpAny _ _ (call (Value.ref 251) _) _ _ _); k_dflt (refine' Cr.use (widths_new _ _ _ _ _ _ _ _ _ _ _ _) ?hs_89 ?B_89 ?F_89 ?X_89 ?N_89 ?T_89 ?hk_89 ?hd_89 ?hu_89 ?_; (case B_89 => assumption); (case F_89 => k_asm); (case X_89 => assumption); (case N_89 => k_asm); (case T_89 => assumption); (case hk_89 => rfl); (case hd_89 => ktr_room); (case hu_89 => ktr_units); (case hs_89 => kcf_all)); intro vW jW PW apW h' tk' F' N'; obtain ⟨⟨wi, eW⟩, eJ⟩ := PW; subst eW; subst eJ; simp only [List.nil_append] at N'; replace N' := News.tl (News.tl (News.tl N')))))
  k_with "my call ref" => ((fail_if_success k_extra "z32"); ((k_here; (with_reducible show wpAny _ _ (call (Value.ref 1271) _) _ _ _); k_dflt (refine' Cl.use (scr_new _ _ _ _ _ _ _ _ _ _ _ _ _ ?p1_90 ?p2_90 ?p3_90) ?B_90 ?F_90 ?X_90 ?N_90 ?T_90 ?hk_90 ?hd_90 ?hu_90 ?_; (case p1_90 => omega); (case p2_90 => omega); (case p3_90 => assumption); (case B_90 => assumption); (case F_90 => k_asm); (case X_90 => assumption); (case N_90 => k_asm); (case T_90 => assumption); (case hk_90 => rfl); (case hd_90 => ktr_room); (case hu_90 => ktr_units)); intro sA sT sN h' tk' F' N'; (simp only [List.cons_append, List.nil_append] at N'); replace N' := news_front N'; (dsimp only [frontL, List.reverse, List.reverseAux] at N'); replace N' := news_perm [0, 1, 5, 4, 2, 3, 14, 11, 10, 9, 12, 13, 6, 7, 8, 15] N'; (dsimp only [permL, nthL] at N'); (have r0 := New0.all sN); (repeat (have := And.left r0; replace r0 := And.right r0)); (have r1 := New0.l_s sN); (k_lt r1); (have r2 := New0.l_cud sN); (k_lt r2); (have r3 := New0.l_cu sN); (k_lt r3); (have r4 := New0.l_td sN); (k_lt r4); (have r5 := New0.l_tg sN); (k_lt r5); (have r6 := New0.l_st sN); (k_lt r6); (have r7 := New0.l_chd sN); (k_lt r7); (have r8 := New0.l_ch sN); (k_lt r8); (have r9 := New0.l_nm sN); (k_lt r9); (obtain ⟨q1, q2, q3, q4, q5, q6, q7, q8, q9, q10, q11, q12, q13⟩ := sN); (subst q1); (k_lt q4); (k_lt2 q5); (k_lt2 q6); (k_lt2 q7); (k_lt2 q8); (k_lt2 q9); (k_lt2 q10); (k_lt2 q11); (k_lt2 q12); (k_lt2 q13); (have oD := offA_d N' (by k_extra "my kall0")); (have oC := offA_c N' (by k_extra "my kall0")); (have oU := offA_u N' (by k_extra "my kall0")); (dsimp only [List.map] at oD oC oU))))
  k_with "my call ref" => ((fail_if_success k_extra "z32"); ((k_here; (with_reducible show wpAny _ _ (call (Value.ref 1287) _) _ _ _); k_dflt (refine' Cl.use (draw_ok _ _ _ _ _ _ _ _ _ _ _ _ _ _ _ _ ?hD_91 ?hdc_91 ?U1_91 ?U2_91 ?hn_91 ?hb_91 ?hb2_91) ?B_91 ?F_91 ?X_91 ?N_91 ?T_91 ?hk_91 ?hd_91 ?hu_91 ?_; (case N_91 => k_asm); (case hD_91 => assumption); (case hdc_91 => assumption); (case U1_91 => k_updF); (case U2_91 => (intro o'; (try dsimp only); k_updF)); (case hn_91 => first | (apply Nat.le_trans; (repeat' first | with_reducible assumption | exact Nat.le_of_lt (by with_reducible assumption) | exact Nat.le_refl 1 | exact Nat.le_refl 6 | apply Nat.add_le_add); decide) | omega); (case hb_91 => first | decide | omega); (case hb2_91 => first | decide | omega); (case B_91 => assumption); (case F_91 => k_asm); (case X_91 => assumption); (case T_91 => assumption); (case hk_91 => rfl); (case hd_91 => ktr_room); (case hu_91 => ktr_units)); intro v t od' oc' v1 v2 D' h' tk' F' N'; (try dsimp only at N'); (try replace N' := news_d3 D' N'))))
  k_with "my call ref" => ((fail_if_success k_extra "z32"); ((k_here; (with_reducible show wpAny _ _ (call (Value.ref 1294) _) _ _ _); k_dflt (refine' Cl.use (pick_ok _ _ _ _ _ _ _ _ _ _ _ _ _ _ _ _ _ ?hD_92 ?hdc_92 ?U1_92 ?U2_92 ?hn_92 ?hq_92 ?hqd_92 ?hb_92 ?hb2_92) ?B_92 ?F_92 ?X_92 ?N_92 ?T_92 ?hk_92 ?hd_92 ?hu_92 ?_; (case N_92 => k_asm); (case hD_92 => assumption); (case hdc_92 => assumption); (case U1_92 => k_updF); (case U2_92 => (intro o'; (try dsimp only); k_updF)); (case hq_92 => k_mem); (case hn_92 => first | (apply Nat.le_trans; (repeat' first | with_reducible assumption | exact Nat.le_of_lt (by with_reducible assumption) | exact Nat.le_refl 1 | exact Nat.le_refl 6 | apply Nat.add_le_add); decide) | omega); (case hqd_92 => first | with_reducible assumption | omega); (case hb_92 => exact Nat.succ_pos _); (case hb2_92 => exact Nat.le_of_ble_eq_true rfl); (case B_92 => assumption); (case F_92 => k_asm); (case X_92 => assumption); (case T_92 => assumption); (case hk_92 => rfl); (case hd_92 => ktr_room); (case hu_92 => ktr_units)); intro i v od' oc' ei D' h' tk' F' N'; (try dsimp only at N'); (try replace N' := News.tl N'); (try replace N' := news_d3 D' N'); k_dflt (first | (obtain ⟨x, tx, ev, x1⟩ := pick_sixL ei; subst ev) | (obtain ⟨x, tx, ev, x1, x2⟩ := pick_intE ei 0 3 (by rfl); subst ev) | (obtain ⟨x, tx, ev⟩ := pick_2 ei; subst ev)))))
  k_with "my call ref" => ((fail_if_success k_extra "z32"); ((k_here; (with_reducible show wpAny _ _ (call (Value.ref 195) _) _ _ _); k_dflt (refine' set_use ?hm2_93 ?hm3_93 ?hm4_93 ?U_93 ?h1_93 ?h2_93 ?hs_93 ?B_93 ?F_93 ?X_93 ?N_93 ?T_93 ?hk_93 ?hd_93 ?hu_93 ?_; (case N_93 => k_asm); (case hm2_93 => k_mem); (case hm3_93 => k_mem); (case hm4_93 => k_mem); (case U_93 => k_updF); (case h1_93 => omega); (case h2_93 => omega); (case hs_93 => first | with_reducible assumption | exact modeL_none (by with_reducible assumption)); (case B_93 => assumption); (case F_93 => k_asm); (case X_93 => assumption); (case T_93 => assumption); (case hk_93 => rfl); (case hd_93 => ktr_room); (case hu_93 => ktr_units)); intro ossn hsn h' tk' F' N'; (try dsimp only at N'))))
  k_with "my call ref" => ((fail_if_success k_extra "z32"); ((k_here; (with_reducible show wpAny _ _ (call (Value.ref 346) _) _ _ _); k_dflt (show wpAny _ _ (call (Value.ref 346) [Value.ref _, Value.int 0 _, Value.bytes _ _]) _ _ _); k_dflt (refine' desig_use_0 ?hb_94 ?h1_94 ?h2_94 ?m1_94 ?m2_94 ?U_94 ?B_94 ?F_94 ?X_94 ?N_94 ?T_94 ?hk_94 ?hd_94 ?hu_94 ?_; (case N_94 => k_asm); (case m1_94 => k_mem); (case m2_94 => k_mem); (case U_94 => k_updF); (case hb_94 => with_reducible assumption); (case h1_94 => omega); (case h2_94 => omega); (case B_94 => assumption); (case F_94 => k_asm); (case X_94 => assumption); (case T_94 => assumption); (case hk_94 => rfl); (case hd_94 => ktr_room); (case hu_94 => ktr_units)); intro h' tk' F' N'; (try dsimp only at N'))))
  k_with "my call ref" => ((fail_if_success k_extra "z32"); ((k_here; (with_reducible show wpAny _ _ (call (Value.ref 346) _) _ _ _); k_dflt (show wpAny _ _ (call (Value.ref 346) [Value.ref _, Value.int 1 _, Value.bytes _ _]) _ _ _); k_dflt (refine' desig_use_1 ?hb_95 ?h1_95 ?h2_95 ?m1_95 ?m2_95 ?U_95 ?B_95 ?F_95 ?X_95 ?N_95 ?T_95 ?hk_95 ?hd_95 ?hu_95 ?_; (case N_95 => k_asm); (case m1_95 => k_mem); (case m2_95 => k_mem); (case U_95 => k_updF); (case hb_95 => with_reducible assumption); (case h1_95 => omega); (case h2_95 => omega); (case B_95 => assumption); (case F_95 => k_asm); (case X_95 => assumption); (case T_95 => assumption); (case hk_95 => rfl); (case hd_95 => ktr_room); (case hu_95 => ktr_units)); intro h' tk' F' N'; (try dsimp only at N'))))
  k_with "my call ref" => ((fail_if_success k_extra "z32"); ((k_here; (with_reducible show wpAny _ _ (call (Value.ref 346) _) _ _ _); k_dflt (show wpAny _ _ (call (Value.ref 346) [Value.ref _, Value.int 2 _, Value.bytes _ _]) _ _ _); k_dflt (refine' desig_use_2 ?hb_96 ?h1_96 ?h2_96 ?m1_96 ?m2_96 ?U_96 ?B_96 ?F_96 ?X_96 ?N_96 ?T_96 ?hk_96 ?hd_96 ?hu_96 ?_; (case N_96 => k_asm); (case m1_96 => k_mem); (case m2_96 => k_mem); (case U_96 => k_updF); (case hb_96 => with_reducible assumption); (case h1_96 => omega); (case h2_96 => omega); (case B_96 => assumption); (case F_96 => k_asm); (case X_96 => assumption); (case T_96 => assumption); (case hk_96 => rfl); (case hd_96 => ktr_room); (case hu_96 => ktr_units)); intro h' tk' F' N'; (try dsimp only at N'))))
  k_with "my call ref" => ((fail_if_success k_extra "z32"); ((k_here; (with_reducible show wpAny _ _ (call (Value.ref 346) _) _ _ _); k_dflt (show wpAny _ _ (call (Value.ref 346) [Value.ref _, Value.int 3 _, Value.bytes _ _]) _ _ _); k_dflt (refine' desig_use_3 ?hb_97 ?h1_97 ?h2_97 ?m1_97 ?m2_97 ?U_97 ?B_97 ?F_97 ?X_97 ?N_97 ?T_97 ?hk_97 ?hd_97 ?hu_97 ?_; (case N_97 => k_asm); (case m1_97 => k_mem); (case m2_97 => k_mem); (case U_97 => k_updF); (case hb_97 => with_reducible assumption); (case h1_97 => omega); (case h2_97 => omega); (case B_97 => assumption); (case F_97 => k_asm); (case X_97 => assumption); (case T_97 => assumption); (case hk_97 => rfl); (case hd_97 => ktr_room); (case hu_97 => ktr_units)); intro h' tk' F' N'; (try dsimp only at N'))))
  trivial
theorem pick_intA (lo hi : Int) {vs : Array Value} {i : Nat} {v : Value} (h : vs.toList.all (inB lo hi) = true) (e : vs[i]? = some v) : ∃ x t, v = .int x t ∧ lo ≤ x ∧ x ≤ hi :=
  pick_int lo hi h (by simpa using e)
theorem kw_WLScr_3 : True := by
  k_with "my eval ListComp" => ((fail_if_success k_extra "z32"); ((k_here; k_dflt (refine ListComp_T (F₀ := by k_asm) (by with_unfolding_all rfl) (by decide) (by rfl) (by decide) (by rfl) ?_))))
  k_with "my CompSrcT" => ((fail_if_success k_extra "z32"); ((k_here; k_dflt (refine' CompSrcT.introN 6 ?hn_99 ?hh_99 ?F_99 ?N_99 ?hm_99 ?hs_99 ?_; (case hh_99 => rfl); (case F_99 => k_asm); (case N_99 => k_asm); (case hm_99 => k_mem); (case hn_99 => rfl); (case hs_99 => exact Nat.le_of_ble_eq_true rfl)); intro g'; (rename Deck _ _ _ _ _ => hDk); k_dflt (refine' cx_draws 128 hDk ?hm_99 ?U1_99 ?U2_99 (fun i' v' ys' od' oc' ns' I' oI' C' oC' Dl' m' h' tk' E' hi' hv' hD' hns' hln' hzs' hC' hx' F' N' off' ne' => ?_) (fun ys' ns' od' oc' hD' hns' hln' hzs' => ?_); (case hm_99 => k_mem); (case U1_99 => k_updF); (case U2_99 => (intro o'; (try dsimp only); k_updF))); (all_goals (try dsimp only at N' off')); (all_goals (try (simp only [LCg.Off3, and_true] at off'))); (all_goals (try (k_dflt (obtain ⟨x, tx, ev, x1, x2⟩ := pick_intA 1 128 (by rfl) hv'; subst ev)))); kcf_last)))
  k_with "my CompEnd" => ((fail_if_success k_extra "z32"); ((k_here; k_dflt (refine' LCg.CompEnd.intro ?F_100 ?N_100 _ ?sub_100 ?off_100 ?hS_100 ?r_100); (case r_100 => refine' DrawJ.step ?a_100 ?b_100 ?c_100 ?d_100 ?e_100 ?f_100 ?g_100; (case a_100 => with_reducible assumption); (case b_100 => exact rfl); (case c_100 => with_reducible assumption); (case d_100 => with_reducible assumption); (case e_100 => with_reducible assumption); (case f_100 => exact (mul01 (by with_reducible assumption) (by with_reducible assumption) (by with_reducible assumption) (by with_reducible assumption)).1); (case g_100 => exact (mul01 (by with_reducible assumption) (by with_reducible assumption) (by with_reducible assumption) (by with_reducible assumption)).2)); (case F_100 => with_reducible assumption); (case N_100 => with_reducible assumption); (case sub_100 => ((try dsimp only); with_reducible kcf_all)); (case off_100 => ((try dsimp only); simp only [LCg.Off3, and_true]; with_reducible assumption)); (case hS_100 => ((try dsimp only); k_dflt k_mem)))))
  trivial
set_option maxHeartbeats 20000000 in
theorem lscreen_ok (w : World) (p : Program) (loose : List Str) (mean : ExcName → Option Value) (mg mb : Str → Option Value) (d c : Addr) (n : Nat) (od oc : Obj) (r cc : Int) (t1 t2 : Tok) (hn : n ≤ 400) (hD : Deck w c n od oc) (hdc : @LT.lt Nat _ d c) (hr1 : 1 ≤ r) (hr2 : r ≤ 9) (hc : cc = 9 ∨ cc = 6) :
    Cq w p loose mean mg mb 30 1299 [.ref d, .int r t1, .int cc t2] [(d, od), (c, oc)] (fun v l => ∃ A σ T od' oc', v = .ref (SA.s A) ∧ l = scrL w A T r cc σ ++ [(d, od'), (c, oc')] ∧ ScrOK w A T cc σ ∧ Good σ r cc ∧ @LT.lt Nat _ c A.md ∧ Deck w c (n + 23) od' oc') := _root_.id <| by
  intro rest dis dp un gd cn cs a ccd cl outer A₀ base h₀ L m s Q E B F X N Tp hk hd hu hr
  revert hn hD hdc hr1 hr2 hc dis B F X N Tp hk hd hu hr
  revert w p loose mean mg mb d c n od oc r cc t1 t2 rest dp un gd cn cs a ccd cl outer A₀ base h₀ L m s Q E
  k_extra "my d14"; intros w p loose mean mg mb d c n od oc r cc t1; k_extra "my of"
  k_extra "my d14"; intros t2 rest dp un gd cn cs a ccd cl outer A₀ base h₀; k_extra "my of"
  k_extra "my d5"; intros L m s Q E; k_extra "my of"
  intros hn hD hdc hr1 hr2 hc dis B F X N Tp hk hd hu hr
  haveI mk : Mark := Mark.mk
  first
  | (refine wpAny_call ?_; k_dflt (refine' code_defR dis ?k1 ?k2 ?k3 ?k4 ?k5 ?kA ?kF ?kK ?k6 ?k7 ?k8 ?k9 ?kB ?_ ?c2 ?c3 ?c4 ?c5; (case kA => exact rfl); (case kF => exact rfl); (case kK => first | assumption | exact rfl); (case k1 => k_asm); (case k2 => k_asm); (case k3 => k_asm); (case k4 => k_asm); (case k5 => k_asm); (case k6 => k_is); (case k7 => k_is); (case k8 => k_room); (case k9 => first | exact BindsTo.of_eq rfl | exact binds_K (by k_in) rfl (by k_is) rfl rfl rfl); (case c5 => decide); (case kB => exact locs rfl); (case c2 => exact rfl); (case c3 => exact rfl); (case c4 => exact rfl); k_whole; intro g' L' h' FG' F' N' B' X' T' kp lL; have lLs := lt_small lL; (try k_lt lLs); (try dsimp only); (try k_lift B')))
  | (refine wpAny_call ?_; k_dflt (refine' code_defCR dis ?k1 ?k2 ?k3 ?k4 ?k5 ?kA ?kF ?kK ?k6 ?k7 ?k8 ?k9 ?kB ?kD ?_ ?c2 ?c3 ?c4; (case kA => exact rfl); (case kF => exact rfl); (case kK => first | assumption | exact rfl); (case k1 => k_asm); (case k2 => k_asm); (case k3 => k_asm); (case k4 => k_asm); (case k5 => k_asm); (case k6 => k_is); (case k7 => k_is); (case k8 => k_room); (case k9 => first | exact BindsTo.of_eq rfl | exact binds_K (by k_in) rfl (by k_is) rfl rfl rfl); (case kB => exact rfl); (case kD => decide +kernel); (case c2 => exact rfl); (case c3 => exact rfl); (case c4 => exact rfl); k_whole; intro g' L' h' tk' cells' FG' F' N' Y' B' X' T' kp lL; have lLs := lt_small lL; (try k_lt lLs); k_cells Y'; (try simp only [List.cons_append, List.nil_append] at N'); (try dsimp only); (try k_lift B')))
  k_extra "my kclose"
  k_extra "my ks2"
  · refine' pack_end_s hr N (by assumption) (by assumption) (by assumption) (by assumption) (by assumption) ?hd ?hc ?hD ?hdm ?h1 ?h2 ?h3 ?h4 ?h5 ?h6 ?h7 ?h8 ?h9 ?h10 ?h11 ?h12 ?h13 ?h14 ?hoss ?host ?o1 ?o2 ?o3 ?o4 ?o5 ?o6 ?o7 ?o8 ?o9 ?o10 ?o11 ?o12 ?o13 ?g1 ?g2 ?g3 ?g4 (fl_ok ?f1 ?f2 ?f3 ?f4) ?g7 ?g8 ?g9 ?g10 ?g11 ?g12 ?g13 ?g14 ?g15 ?g16
    k_dflt (case h1 => k_mem)
    k_dflt (case h2 => k_mem)
    k_dflt (case h3 => k_mem)
    k_dflt (case h4 => k_mem)
    k_dflt (case h5 => k_mem)
    k_dflt (case h6 => k_mem)
    k_dflt (case h7 => k_mem)
    k_dflt (case h8 => k_mem)
    k_dflt (case h9 => k_mem)
    k_dflt (case h10 => k_mem)
    k_dflt (case h11 => k_mem)
    k_dflt (case h12 => k_mem)
    k_dflt (case h13 => k_mem)
    k_dflt (case h14 => k_mem)
    k_dflt (case hd => k_mem)
    k_dflt (case hc => k_mem)
    case hD => with_reducible assumption
    case hoss => with_reducible assumption
    case host => with_reducible assumption
    all_goals first | with_reducible assumption | omega | (simp only [decide_eq_true_eq] at *; omega)
  · refine' pack_end_n hr N (by assumption) (by assumption) (by assumption) (by assumption) (by assumption) ?hdz ?hcz ?hDz ?hdmz ?h1z ?h2z ?h3z ?h4z ?h5z ?h6z ?h7z ?h8z ?h9z ?h10z ?h11z ?h12z ?h13z ?h14z ?hossz ?hostz ?hshz ?o1z ?o2z ?o3z ?o4z ?o5z ?o6z ?o7z ?o8z ?o9z ?o10z ?o11z ?o12z ?o13z ?g1z ?g2z ?g3z ?g4z (fl_ok ?f1z ?f2z ?f3z ?f4z) ?g7z ?g8z ?g9z ?g10z ?g11z ?g12z ?g13z ?g14z
    k_dflt (case h1z => k_mem)
    k_dflt (case h2z => k_mem)
    k_dflt (case h3z => k_mem)
    k_dflt (case h4z => k_mem)
    k_dflt (case h5z => k_mem)
    k_dflt (case h6z => k_mem)
    k_dflt (case h7z => k_mem)
    k_dflt (case h8z => k_mem)
    k_dflt (case h9z => k_mem)
    k_dflt (case h10z => k_mem)
    k_dflt (case h11z => k_mem)
    k_dflt (case h12z => k_mem)
    k_dflt (case h13z => k_mem)
    k_dflt (case h14z => k_mem)
    k_dflt (case hdz => k_mem)
    k_dflt (case hcz => k_mem)
    case hDz => with_reducible assumption
    case hossz => with_reducible assumption
    case hostz => with_reducible assumption
    all_goals first | with_reducible assumption | omega | (simp only [decide_eq_true_eq] at *; omega)
end
section
namespace En
open LCg
section
variable {prog : Program} {w : World} {A : Around} {E : Value → Shared → Prop} {s : Shared} {h₀ : Heap} {L : Addr} {m : Str → Option Value} {env : Env} {news : Led}
noncomputable def upTo (tb : Nat → Bool) (ev : Nat → Int) : Nat → List Int
  | 0 => []
  | i + 1 => if tb i then upTo tb ev i ++ [ev i] else upTo tb ev i
theorem upTo_len (tb : Nat → Bool) (ev : Nat → Int) : ∀ i, (upTo tb ev i).length ≤ i
  | 0 => Nat.le_refl _
  | i + 1 => by
    unfold upTo
    have := upTo_len tb ev i
    split
    · rw [List.length_append, List.length_singleton]; omega
    · omega
theorem ltS {h : Heap} {a : Addr} {o : Obj} (e : h.get? a = some o) : @LT.lt Nat _ a h.objs.size := Heap.lt_size e
theorem fresh_of {h : Heap} {a : Addr} (ha : h.objs.size ≤ a) : h.get? a = none := by
  cases e : h.get? a with
  | none => rfl
  | some o' => exact absurd (Heap.lt_size e) (Nat.not_lt.mpr ha)
theorem lt_irrefl_of {a b : Nat} {P : Prop} (h : a < b) (k : b < a) : P := absurd h (Nat.lt_asymm k)
theorem kw_WEn_0 : True := by
  k_with "z32" => skip
  k_with "my kfold" => ((fail_if_success k_extra "z33"); skip)
  k_with "my om" => ((fail_if_success k_extra "z33"); (first | exact Nat.ne_of_lt (by assumption) | exact Nat.ne_of_gt (by assumption) | exact Nat.ne_of_lt (Nat.lt_trans this (by assumption)) | exact Nat.ne_of_gt (Nat.lt_trans this (by assumption)) | exact Nat.ne_of_lt (Nat.lt_trans hc (by assumption)) | exact Nat.ne_of_gt (Nat.lt_trans hLs (by assumption)) | exact lt_irrefl_of z (by assumption) | omega | (intro (z : @Eq Nat _ _); omega) | (show @LT.lt Nat _ _ _; omega)))
  trivial
theorem comp {elt iter c : PySem.Expr} {a b : Str} {pa pb tp : Pos} {kk : Nat} {scope : Scope} {cl : List (Str × Addr)} {pos : Pos} {Q : Value → Shared → Prop} {l : Addr} {vs : List Value} (tb : Nat → Bool) (ev : Nat → Int)
    (hh : A.handled = none) (F : Fr h₀ L s.heap m) (N : News h₀ L s.heap news) (hl : s.heap.IsList l vs.toArray) (hsz : vs.length ≤ sizeLine)
    (hclos : closureFor scope env = pure cl) (hcell : ∀ y ∈ scope.names, y.2 ≠ .cell) (hkind : scope.kind = .function)
    (hnames : ∀ y ∈ scope.names, y.2 = .local → scope.names.lookup y.1 = some .local) (hxa : scope.names.lookup a = some .local) (hxb : scope.names.lookup b = some .local) (hab : ¬ a = b)
    (hsrc : ∀ Q' : Value → Shared → Prop, wpAny (model prog w) A (call (.type "enumerate") [.ref l]) Q' E s → wpAny (model prog w) A (eval iter env) Q' E s)
    (test : ∀ (i : Nat) (x : Value) (t : Tok) (C : Addr) (m₂ : Str → Option Value) (s' : Shared) (Q' : Bool → Shared → Prop) (E' : Value → Shared → Prop), vs[i]? = some x → s'.heap.Ns C m₂ → m₂ a = some (.int i t) → m₂ b = some x → Q' (tb i) s' → wpAny (model prog w) A (isTrue c (compEnvC scope cl C env) (eval c (compEnvC scope cl C env))) Q' E' s')
    (item : ∀ (i : Nat) (x : Value) (t : Tok) (C : Addr) (m₂ : Str → Option Value) (s' : Shared) (Q' : Value → Shared → Prop) (E' : Value → Shared → Prop), vs[i]? = some x → s'.heap.Ns C m₂ → m₂ a = some (.int i t) → m₂ b = some x → (∀ t' tk', Q' (.int (ev i) t') { s' with toks := tk' }) → wpAny (model prog w) A (eval elt (compEnvC scope cl C env)) Q' E' s')
    (fin : ∀ D ys h' tk, IntsAre ys (upTo tb ev vs.length) → Fr h₀ L h' m → News h₀ L h' ((D, lst ys) :: news) → (∀ p ∈ news, p.1 < D) → Q (.ref D) { s with heap := h', toks := tk })
    (hs : ∀ x, foldedSetIterable iter env x = pure x := by intro _; rfl) :
    wpAny (model prog w) A (eval (.ListComp elt [⟨.Tuple [.Name a pa, .Name b pb] kk tp, iter, [c], 0⟩] scope pos) env) Q E s := by
  rw [eval_ListComp]
  refine wpAny_comprehension_free (use := none) rfl hs hclos hkind hnames (hsrc _ ?_)
  refine call_enumerate_list hl fun h₁ hE hI hz hk => ?_
  have hlt : @LT.lt Nat _ l s.heap.objs.size := by obtain ⟨_, e, _⟩ := hl; exact ltS e
  have hLs : @LT.lt Nat _ L s.heap.objs.size := F.ns.lt
  refine wpAny_pyIter_enum hE ?_
  refine wpAny_newObj_type (wpAny_newFunctionEnv hcell (by intro y hy; simp at hy) (fun h₂ hns₂ hsb₂ => ?_) hkind)
  dsimp only at hns₂ hsb₂ ⊢
  generalize hH : h₁.push { cls := .type "list", dict := none, data := .seq ([] : List Value).toArray } = H at hns₂ hsb₂ ⊢
  have hHs : H.objs.size = h₁.objs.size + 1 := by rw [← hH, Heap.size_push]
  have o1 : @LT.lt Nat _ s.heap.objs.size h₁.objs.size := by omega
  have o2 : @LT.lt Nat _ (s.heap.objs.size + 1) h₁.objs.size := by omega
  have o3 : @LT.lt Nat _ h₁.objs.size H.objs.size := hHs ▸ Nat.lt_succ_self _
  have o4 : @LT.lt Nat _ s.heap.objs.size H.objs.size := Nat.lt_trans o1 o3
  have o5 : @LT.lt Nat _ (s.heap.objs.size + 1) H.objs.size := Nat.lt_trans o2 o3
  have o6 : @LT.lt Nat _ s.heap.objs.size (s.heap.objs.size + 1) := Nat.lt_succ_self _
  have W := (WalksT.enumerate (prog := prog) (w := w) hh (s.heap.objs.size + 1) s.heap.objs.size l (Nat.succ_ne_self _) (by k_extra "my om") (Nat.ne_of_lt hlt) vs.toArray).toU
  have old₁ : ∀ b o, h₁.get? b = some o → h₂.get? b = some o := fun b o e => hsb₂.extBut b o (by rw [hHs]; have := ltS e; k_extra "my om") (Heap.get?_push_of_some _ (hH ▸ Heap.get?_push_of_some _ e))
  have hacc : h₂.get? h₁.objs.size = some (lst []) := hsb₂.extBut _ _ (by rw [hHs]; exact Nat.ne_of_lt (Nat.lt_succ_self _)) (Heap.get?_push_of_some _ (hH ▸ Heap.get?_push_size _ rfl))
  have loop : ∀ s₃ : Shared, s₃ = { s with heap := h₂, toks := s.toks + ([] : List (Str × Value)).length } →
      codeAny (model prog w) A (.compLoop (.ListComp elt [⟨.Tuple [.Name a pa, .Name b pb] kk tp, iter, [c], 0⟩] scope pos) 0 (.ref (s.heap.objs.size + 1)) (.ref h₁.objs.size) (compEnvC scope cl H.objs.size env))
        (compPost (model prog w) A E none Q (.ref h₁.objs.size) H.objs.size) s₃ := by
    rintro s₃ rfl
    refine kct_loop
      (fun k s' => ∃ h' tk i ys m', s' = { s with heap := h', toks := tk } ∧ i ≤ vs.length ∧ k = vs.length + 1 - i ∧ ((∃ old, IsEnum h' (s.heap.objs.size + 1) s.heap.objs.size i old) ∧ h'.IsListIter s.heap.objs.size l i ∧ h'.IsList l vs.toArray) ∧ (∀ b o, s.heap.get? b = some o → h'.get? b = some o) ∧ h'.Ns H.objs.size m' ∧
        h'.get? h₁.objs.size = some (lst ys) ∧ IntsAre ys (upTo tb ev i)) ?_ (vs.length + 1)
      ⟨h₂, _, 0, [], _, rfl, Nat.zero_le _, rfl, ⟨⟨_, old₁ _ _ hE⟩, hI.at fun o x => old₁ _ o x, hl.at fun o x => old₁ _ o (hk _ o x)⟩, fun b o e => old₁ b o (hk b o e), hns₂, hacc, .nil⟩
    rintro k s' ⟨h', tk, i, ys, m', rfl, hi, rfl, hst, keep, hn', hD, hys⟩
    by_cases hlt' : i < vs.length
    · refine W.item i _ _ _ (by simpa using hlt') hst fun T vals h₃ tk₃ hP hT hMd hk₃ => ?_
      have hTw := W.apart i T _ hMd
      obtain ⟨t, x, hx, rfl⟩ := hP
      have hx : vs[i]? = some x := by simpa using hx
      refine W.go _ _ _ i T _ _ _ hMd fun h₄ hst₄ hk₄ => ?_
      have up₄ : ∀ c o, c ≠ s.heap.objs.size + 1 → c ≠ s.heap.objs.size → h'.get? c = some o → h₄.get? c = some o := fun c o h1 h2 e => hk₄ c o (by simp [h1, h2]) (hk₃ c o (by simp [h1, h2]) e)
      have hT₄ : h₄.IsTuple T #[.int i t, x] := hT.at fun o e => hk₄ T o hTw e
      refine kcp_assign (env := compEnvC scope cl H.objs.size env) hh hT₄ (lookup_relabel_local hxa) (lookup_relabel_local hxb) (by simp [compEnvC, relabel, hkind]) (hn'.at' fun o e => up₄ _ o (by show H.objs.size ≠ _; k_extra "my om") (by show H.objs.size ≠ _; k_extra "my om") e) fun h₅ tk₅ hn₅ hs₅ => ?_
      have hCe : ∀ c, c < h₁.objs.size → c ≠ H.objs.size := fun c hc => by k_extra "my om"
      have keep₅ : ∀ b o, s.heap.get? b = some o → h₅.get? b = some o := fun b o e => by
        have := ltS e
        exact hs₅ b o (by show b ≠ H.objs.size; k_extra "my om") (up₄ b o (by k_extra "my om") (by k_extra "my om") (keep b o e))
      have hD₅ : h₅.get? h₁.objs.size = some (lst ys) := hs₅ _ _ (by show _ ≠ H.objs.size; k_extra "my om") (up₄ _ _ (by k_extra "my om") (by k_extra "my om") hD)
      have st₅ : (∃ old, IsEnum h₅ (s.heap.objs.size + 1) s.heap.objs.size ((i : Nat) + 1 : Nat) old) ∧ h₅.IsListIter s.heap.objs.size l (i + 1) ∧ h₅.IsList l vs.toArray := by
        refine W.frame (i + 1) _ _ hst₄ fun b hb o e => hs₅ b o ?_ e
        show b ≠ H.objs.size
        rcases List.mem_cons.mp hb with rfl | hb
        · k_extra "my om"
        · rcases List.mem_cons.mp hb with rfl | hb
          · k_extra "my om"
          · rw [List.mem_singleton.mp hb]; k_extra "my om"
      refine test i x t H.objs.size _ _ _ _ hx hn₅ (by simp [hab]) (by simp) ?_
      cases htb : tb i with
      | false =>
        simp only [Bool.false_eq_true, if_false]
        refine ⟨vs.length + 1 - (i + 1), Nat.sub_lt_sub_left (Nat.lt_succ_of_lt hlt') (Nat.lt_succ_self i), h₅, tk₅, i + 1, ys, _, rfl, hlt', rfl, st₅, keep₅, hn₅, hD₅, ?_⟩
        unfold upTo
        rw [htb]
        exact hys
      | true =>
        simp only [if_true]
        refine item i x t H.objs.size _ _ _ _ hx hn₅ (by simp [hab]) (by simp) fun t' tk' => ?_
        have hyl : ys.length ≤ i := by rw [hys.length]; exact upTo_len _ _ _
        refine append_at (hsz := by show ys.toArray.size ≤ sizeLine; rw [List.size_toArray]; k_extra "my om") hD₅ fun h₆ hs₆ hD₆ => ?_
        refine ⟨vs.length + 1 - (i + 1), Nat.sub_lt_sub_left (Nat.lt_succ_of_lt hlt') (Nat.lt_succ_self i), h₆, tk', i + 1, ys ++ [.int (ev i) t'], _, rfl, hlt', rfl, ?_, fun b o e => ?_, hn₅.at' fun o e => hs₆.extBut _ o (by show H.objs.size ≠ _; k_extra "my om") e, hD₆.trans (congrArg some (lst_snoc ys _)), ?_⟩
        · refine W.frame (i + 1) _ _ st₅ fun b hb o e => hs₆.extBut b o ?_ e
          rcases List.mem_cons.mp hb with rfl | hb
          · k_extra "my om"
          · rcases List.mem_cons.mp hb with rfl | hb
            · k_extra "my om"
            · rw [List.mem_singleton.mp hb]; k_extra "my om"
        · have := ltS e
          exact hs₆.extBut b o (by k_extra "my om") (keep₅ b o e)
        · unfold upTo
          rw [htb]
          exact hys.append (.cons _ _ .nil)
    · have hin : i = vs.length := Nat.le_antisymm hi (Nat.not_lt.mp hlt')
      subst hin
      refine W.done _ _ _ (by simpa using hst) fun h₃ tk₃ hk₃ => ?_
      have up₃ : ∀ c o, c ≠ s.heap.objs.size + 1 → c ≠ s.heap.objs.size → h'.get? c = some o → h₃.get? c = some o := fun c o h1 h2 e => hk₃ c o (by simp [h1, h2]) e
      refine ⟨m', hn'.at' fun o e => up₃ _ o (by show H.objs.size ≠ _; k_extra "my om") (by show H.objs.size ≠ _; k_extra "my om") e, fun h₄ hs₄ => ?_⟩
      have keep₄ : ∀ b o, s.heap.get? b = some o → h₄.get? b = some o := fun b o e => by
        have := ltS e
        exact hs₄.extBut b o (by k_extra "my om") (up₃ b o (by k_extra "my om") (by k_extra "my om") (keep b o e))
      refine fin h₁.objs.size ys h₄ tk₃ hys (F.keeps keep₄) (fun q hq => ?_) fun q hq => ?_
      · rcases List.mem_cons.mp hq with rfl | hq
        · refine ⟨hs₄.extBut _ _ (by show h₁.objs.size ≠ _; k_extra "my om") (up₃ _ _ (by show h₁.objs.size ≠ _; k_extra "my om") (by show h₁.objs.size ≠ _; k_extra "my om") hD), by show h₁.objs.size ≠ L; k_extra "my om", ?_⟩
          show h₀.get? h₁.objs.size = none
          cases q : h₀.get? h₁.objs.size with
          | none => rfl
          | some o' => have z := ltS (F.keep _ o' q); k_extra "my om"
        · exact ⟨keep₄ _ _ (N q hq).1, (N q hq).2⟩
      · have := ltS (N q hq).1
        k_extra "my om"
  exact codeAny_compStart_list (loop _ rfl) (wpAny_pyIter_enum (old₁ _ _ hE) (loop _ rfl))
end
end En
end
section
theorem kw_WLBits_0 : True := by
  k_with "z33" => skip
  k_with "my kfold" => ((fail_if_success k_extra "z34"); skip)
  k_with "my kf" => ((fail_if_success k_extra "z34"); (k_extra "my kclose"))
  trivial
open LCg in
theorem lb_item {w : World} {A : Around} {env : Env} {scope : Scope} {C : Addr} {m₂ : Str → Option Value} {s' : Shared} {Q' : Value → Shared → Prop} {E' : Value → Shared → Prop} {i : Nat} {t : Tok} {p1 p2 p3 : Pos} {k1 : Nat}
    (hi : i < 8) (hn : s'.heap.Ns C m₂) (hx : m₂ (Str.ofString "k") = some (.int i t)) (hk : (compEnvC scope [] C env).scope.kind = .function) (hl : (compEnvC scope [] C env).kindOf (Str.ofString "k") = some .local)
    (h : ∀ t' tk', Q' (.int (2 ^ i) t') { s' with toks := tk' }) : wpAny (model pw w) A (eval (.BinOp (.Constant (.int 2) k1 p1) .Pow (.Name (Str.ofString "k") p2) p3) (compEnvC scope [] C env)) Q' E' s' := by
  refine wpAny_BinOp (wpAny_Constant_int ?_)
  refine wpAny_Name (wpAny_loadName_local hk hl (s := { s' with toks := s'.toks + 1 }) hn hx ?_) (by decide)
  refine pow_int_small (Int.natCast_nonneg i) (by omega) (by decide) ?_
  rw [Int.toNat_natCast]
  exact h _ _
theorem lb_test {w : World} {A : Around} {env : Env} {scope : Scope} {C : Addr} {m₂ : Str → Option Value} {s' : Shared} {Q' : Bool → Shared → Prop} {E' : Value → Shared → Prop} {b : Bool} {p1 : Pos}
    (hn : s'.heap.Ns C m₂) (hx : m₂ (Str.ofString "truth") = some (.bool b)) (hk : (compEnvC scope [] C env).scope.kind = .function) (hl : (compEnvC scope [] C env).kindOf (Str.ofString "truth") = some .local)
    (h : Q' b s') : wpAny (model pw w) A (isTrue (.Name (Str.ofString "truth") p1) (compEnvC scope [] C env) (eval (.Name (Str.ofString "truth") p1) (compEnvC scope [] C env))) Q' E' s' :=
  isTrue_plain (wpAny_Name (wpAny_loadName_local hk hl hn hx (wpAny_truthy_bool h)) (by decide))
noncomputable def bl (bs : List Bool) : List Value := bs.map .bool
theorem bl_at {bs : List Bool} {i : Nat} {x : Value} (h : (bl bs)[i]? = some x) : x = .bool (bs.getD i false) := by
  unfold bl at h
  rw [List.getElem?_map] at h
  cases e : bs[i]? with
  | none => rw [e] at h; cases h
  | some b => rw [e] at h; cases h; rw [List.getD_eq_getElem?_getD, e]; rfl
noncomputable def pws (bs : List Bool) : Int := (En.upTo (fun i => bs.getD i false) (fun i => 2 ^ i) (bl bs).length).sum
theorem kw_WLBits_1 : True := by
  k_with "my eval ListComp" => ((fail_if_success k_extra "z34"); ((k_here; k_dflt ((rename List Bool => bs'); (rename List.length _ ≤ 4 => hb'); (rename Fr _ _ _ _ => lF'); (rename News _ _ _ _ => lN'); (refine' En.comp (vs := bl bs') (fun i => bs'.getD i false) (fun i => 2 ^ i) (by rfl) lF' lN' (News.isList lN' (by k_mem)) ?hz_103 (by rfl) (by decide) (by rfl) (by decide) (by rfl) (by rfl) (by decide) ?hsrc_103 ?test_103 ?item_103 ?fin_103); (case hz_103 => (simp only [bl, List.length_map]; exact Nat.le_trans hb' (by decide))); (case hsrc_103 => (intro Q'' hq''; repeat (first | (with_reducible exact hq'') | (walk1; try dsimp only)))); (case test_103 => (intro i x t C m₂ s' Q' E' hx hn ha hb2 hq; cases bl_at hx; exact lb_test hn hb2 (by rfl) (by rfl) hq)); (case item_103 => (intro i x t C m₂ s' Q' E' hx hn ha hb2 hq; have hi := (List.getElem?_eq_some_iff.mp hx).1; rw [bl, List.length_map] at hi; exact lb_item (by omega) hn ha (by rfl) (by rfl) hq)); (intro D ys h' tk' hys F' N' l1)))))
  trivial
set_option maxHeartbeats 800000 in
theorem lbits (w : World) (p : Program) (loose : List Str) (mean : ExcName → Option Value) (mg mb : Str → Option Value) (q : Addr) (k : Nat) (bs : List Bool) (hb : bs.length ≤ 4) :
    Cr w p loose mean mg mb 4 1311 [.ref q] [(q, W.listOf (bl bs).toArray k)] (fun v l => (∃ t', v = .int (64 + pws bs) t') ∧ l = []) := _root_.id <| by
  k_dflt (refine' Cr.of_body (binds := [(("truths" : Str), .ref q)]) ?k6 ?k7 ?k9 ?kB ?c2 ?c3 ?c4 ?c5 ?_; (case k6 => k_is); (case k7 => k_is); (case k9 => exact rfl); (case kB => exact locs rfl); (case c2 => exact rfl); (case c3 => exact rfl); (case c4 => exact rfl); (case c5 => decide))
  intro dp un gd outer A₀ base g L h tk gs dr os Q B X Tp F N lL hd hu hQ
  revert hb B X Tp F N lL hd hu hQ
  revert w p loose mean mg mb q k bs dp un gd outer A₀ base g L h tk gs dr os Q
  k_extra "my d14"; intros w p loose mean mg mb q k bs dp un gd outer A₀; k_extra "my of"
  k_extra "my d8"; intros base g L h tk gs dr os; k_extra "my of"
  k_extra "my d1"; intros Q; k_extra "my of"
  intros hb B X Tp F N lL hd hu hQ
  haveI mk : Mark := Mark.mk
  try k_lt lL
  k_extra "my kclose"
  k_extra "my ks2"
  refine' hQ (.ret _) _ [] _ _ _ ?ff ?nn ?sub ?ap ⟨⟨_, rfl⟩, rfl⟩
  case ff => assumption
  case nn => assumption
  case sub => (try simp only [List.cons_append, List.nil_append]); kcf_all
  case ap => exact List.forall_mem_nil _
end
section
local macro_rules | `(tactic| k_lt $h:ident) => `(tactic| clear $h)
theorem kw_WLFields_0 : True := by
  k_with "z34" => skip
  k_with "my kfold" => ((fail_if_success k_extra "z35"); skip)
  k_with "my kf" => ((fail_if_success k_extra "z35"); (k_extra "my kclose"))
  trivial
open PySem.Builtin.Bytes (joined)
theorem pws4 (a b c d : Bool) : 64 + pws [a, b, c, d] = bit4 a b c d := by cases a <;> cases b <;> cases c <;> cases d <;> decide
theorem pws1 (a : Bool) : 64 + pws [a] = bit1 a := by cases a <;> decide
theorem lbits4 (w : World) (p : Program) (loose : List Str) (mean : ExcName → Option Value) (mg mb : Str → Option Value) (q : Addr) (k : Nat) (a b c d : Bool) :
    Cr w p loose mean mg mb 4 1311 [.ref q] [(q, W.listOf #[.bool a, .bool b, .bool c, .bool d] k)] (fun v l => (∃ t', v = .int (bit4 a b c d) t') ∧ l = []) := by
  have h := lbits w p loose mean mg mb q k [a, b, c, d] (Nat.le_of_ble_eq_true rfl)
  rw [pws4] at h
  exact h
theorem lbits1 (w : World) (p : Program) (loose : List Str) (mean : ExcName → Option Value) (mg mb : Str → Option Value) (q : Addr) (k : Nat) (a : Bool) :
    Cr w p loose mean mg mb 4 1311 [.ref q] [(q, W.listOf #[.bool a] k)] (fun v l => (∃ t', v = .int (bit1 a) t') ∧ l = []) := by
  have h := lbits w p loose mean mg mb q k [a] (Nat.le_of_ble_eq_true rfl)
  rw [pws1] at h
  exact h
theorem in_b4 (a b c d : Bool) : KBa.In [bit4 a b c d] := in1 (by cases a <;> cases b <;> cases c <;> cases d <;> decide) (by cases a <;> cases b <;> cases c <;> cases d <;> decide)
theorem in_b1 (a : Bool) : KBa.In [bit1 a] := in1 (by cases a <;> decide) (by cases a <;> decide)
noncomputable def osz (o : Obj) : Nat := match o.data with | .seq a _ => a.size | _ => 0
theorem kw_WLFields_1 : True := by
  k_with "my call ref" => ((fail_if_success k_extra "z35"); ((k_here; (with_reducible show wpAny _ _ (call (Value.ref 1316) _) _ _ _); k_dflt (refine' Cr.use (ldec_ok _ _ _ _ _ _ _ _ ?p1_105 ?p2_105) ?hs_105 ?B_105 ?F_105 ?X_105 ?N_105 ?T_105 ?hk_105 ?hd_105 ?hu_105 ?_; (case N_105 => k_asm); (case hs_105 => kcf_all); (case p1_105 => first | assumption | omega); (case p2_105 => first | assumption | omega); (case B_105 => assumption); (case F_105 => k_asm); (case X_105 => assumption); (case T_105 => assumption); (case hk_105 => rfl); (case hd_105 => ktr_room); (case hu_105 => ktr_units)); intro v1 l1 P1 ap1 h' tk' F' N'; obtain ⟨⟨t1, e1⟩, e2⟩ := P1; subst e1; subst e2; (try simp only [List.nil_append] at N'))))
  k_with "my call ref" => ((fail_if_success k_extra "z35"); ((k_here; (with_reducible show wpAny _ _ (call (Value.ref 1311) _) _ _ _); k_dflt (refine' Cr.use1 (lbits1 _ _ _ _ _ _ _ _ _) ?hm_106 ?B_106 ?F_106 ?X_106 ?N_106 ?T_106 ?hk_106 ?hd_106 ?hu_106 ?_; (case N_106 => k_asm); (case hm_106 => k_mem); skip; (case B_106 => assumption); (case F_106 => k_asm); (case X_106 => assumption); (case T_106 => assumption); (case hk_106 => rfl); (case hd_106 => ktr_room); (case hu_106 => ktr_units)); intro v1 l1 P1 ap1 h' tk' F' N'; obtain ⟨⟨t1, e1⟩, e2⟩ := P1; subst e1; subst e2; (try simp only [List.nil_append] at N'))))
  k_with "my call ref" => ((fail_if_success k_extra "z35"); ((k_here; (with_reducible show wpAny _ _ (call (Value.ref 1311) _) _ _ _); k_dflt (refine' Cr.use1 (lbits4 _ _ _ _ _ _ _ _ _ _ _ _) ?hm_107 ?B_107 ?F_107 ?X_107 ?N_107 ?T_107 ?hk_107 ?hd_107 ?hu_107 ?_; (case N_107 => k_asm); (case hm_107 => k_mem); skip; (case B_107 => assumption); (case F_107 => k_asm); (case X_107 => assumption); (case T_107 => assumption); (case hk_107 => rfl); (case hd_107 => ktr_room); (case hu_107 => ktr_units)); intro v1 l1 P1 ap1 h' tk' F' N'; obtain ⟨⟨t1, e1⟩, e2⟩ := P1; subst e1; subst e2; (try simp only [List.nil_append] at N'))))
  k_with "my getMethod bytes" => ((fail_if_success k_extra "z35"); ((k_here; first | (with_reducible refine meth_join ?_) | (with_reducible refine meth_split ?_))))
  k_with "my compareOp Eq int" => ((fail_if_success k_extra "z35"); ((k_here; k_dflt (refine sh_eq (by with_reducible assumption) ?_))))
  k_with "my khanded" => ((fail_if_success k_extra "z35"); (with_reducible assumption))
  k_with "my subscriptTail" => ((fail_if_success k_extra "z35"); ((k_here; (with_reducible show wpAny _ _ (subscriptTail _ (Expr.Slice _ _ none _) (Value.bytes _ _) (Value.ref _)) _ _ _); (with_reducible rename Fr _ _ _ _ => F'); (with_reducible rename News _ _ _ _ => N'); (with_unfolding_all refine KBc.slice_K (s := ⟨_, _, _, _, _⟩) (ks := KBw.bInts _) F' N' rfl (by first | exact IsPart.none | exact IsPart.int _ _) (by first | exact IsPart.none | exact IsPart.int _ _) (six_size (by with_reducible assumption)) ?_); clear F' N'; intro h' t' tk' F' N' _)))
  k_with "my compareOp Eq bytes bytes" => ((fail_if_success k_extra "z35"); ((k_here; k_dflt (refine eq_head (by with_reducible assumption) ?_))))
  k_with "my eval ListComp" => ((fail_if_success k_extra "z35"); ((k_here; k_dflt (refine LCg.ListComp_U (F₀ := by k_asm) (by rfl) (by decide) (by rfl) (by decide) (by rfl) ?_))))
  k_with "my CompSrc" => ((fail_if_success k_extra "z35"); ((k_here; k_dflt (refine LCg.CompSrc.ledger (by rfl) (by k_asm) (by k_asm) (by k_mem) (by exact Nat.le_of_ble_eq_true rfl) ?_; intro g'; first
  | ((with_reducible show LCg.CompRest _ _ _ _ _ _ _ (Expr.Compare _ _ _ _) _ _ _ _ _ _ _ _ _ _ _); refine' cx_val (fun b => Value.bool (dash b)) [_, _, _, _] SixR rfl (six_at (by assumption) (by assumption) (by assumption) (by assumption)) (fun a' v' I' oI' C' oC' D' m' ys' h' tk' E' hv' hC' hx' F' N' off' ne' => ?_) ?_; (obtain ⟨hs', t0, e0⟩ := hv'; subst e0))
  | (refine' cx_bys undash [_, _, _, _] SixR rfl (six_at (by assumption) (by assumption) (by assumption) (by assumption)) (fun a' v' I' oI' C' oC' D' m' ys' h' tk' E' hv' hC' hx' F' N' off' ne' => ?_) ?_; (obtain ⟨hs', t0, e0⟩ := hv'; subst e0)); (all_goals (try (simp only [LCg.Off3, and_true] at off'))); kcf_last))))
  k_with "my CompEnd" => ((fail_if_success k_extra "z35"); ((k_here; k_dflt (refine cx_end (by assumption) (by assumption) (by kcf_all) (by first | assumption | (simp only [LCg.Off3, and_true]; done) | (simp only [LCg.Off3, and_true]; assumption)) (by first | lcg_src | assumption | exact True.intro) (by first | exact rfl | exact ⟨_, congrArg (fun z => Value.bytes z _) (dash_tail (by with_reducible assumption) (by with_reducible assumption))⟩ | exact ⟨_, congrArg (fun z => Value.bytes z _) (dash_not (by first | with_reducible assumption | exact Bool.eq_false_iff.mpr (by with_reducible assumption)))⟩ | exact ⟨_, rfl⟩)))))
  k_with "my call builtin:bytes.join" => ((fail_if_success k_extra "z35"); ((k_here; (k_dflt (refine bytes_joinP _ _ (by k_asm) (by k_asm) (by k_mem) (by rfl) (by assumption) (Nat.ne_of_beq_eq_false rfl) (names_small (by assumption) (by assumption) (by assumption) (by assumption)) ?_); (intro t' tk')))))
  k_with "my call type:bytes" => ((fail_if_success k_extra "z35"); ((k_here; k_dflt (refine KBa.make_K (by k_asm) (by k_asm) (by rfl) (by kba_isList) (.cons _ _ .nil) (by first | exact in_b1 _ | exact in_b4 _ _ _ _) (Nat.le_of_ble_eq_true rfl) ?_); intro h' t' k' F' N' i')))
  k_with "my subscriptTail Name Slice ref ref" => ((fail_if_success k_extra "z35"); ((k_here; k_dflt ((refine' kms_slice_lit (s := ⟨_, _, _, _, _⟩) (zs := [_, _, _, _, _, _, _, _, _, _]) ?F_118 ?N_118 ?l_118 ?p_118 ?q_118 ?e_118 ?_ ?s_118 ?t_118 ?z_118; (case F_118 => k_asm); (case N_118 => k_asm); (case l_118 => kmk_list); (case p_118 => kmk_part); (case q_118 => kmk_part); (case e_118 => exact rfl); (case s_118 => with_unfolding_all rfl); (case t_118 => kmk_pure); (case z_118 => exact Nat.le_of_ble_eq_true rfl)); intro D' h' F' N' l1; (try k_lt l1)))))
  trivial
theorem apart_of {h₀ h : Heap} {L a b : Addr} {news : Led} {o₁ o₂ : Obj} {n m : Nat} (N : News h₀ L h news) (h1 : (a, o₁) ∈ news) (h2 : (b, o₂) ∈ news) (e1 : osz o₁ = n) (e2 : osz o₂ = m) (hne : n ≠ m) : b ≠ a := by
  rintro rfl
  have := (N _ h1).1.symm.trans (N _ h2).1
  cases this
  exact hne (e1.symm.trans e2)
noncomputable def lawF (σ : SV) : List (Array UInt8) :=
  [byteArr [48 + (σ.row + 1)], byteArr [48 + (σ.col + 1)], #[49], byteArr [bit4 (σ.fl.fmod 2 == 1) (decide (0 < σ.fl.fdiv 512)) ((σ.fl.fdiv 8).fmod 2 == 1) ((σ.fl.fdiv 32).fmod 2 == 1)], byteArr [bit1 σ.gd],
    byteArr [bit4 σ.og (decide (σ.sh = some 2)) (decide (σ.sh = some 3)) σ.wt], byteArr [48 + σ.lf], byteArr [48 + σ.rt], byteArr [bit4 (dash σ.b0) (dash σ.b1) (dash σ.b2) (dash σ.b3)], joined #[] ([σ.b0, σ.b1, σ.b2, σ.b3].map undash)]
set_option maxHeartbeats 8000000 in
theorem lfields_ok (w : World) (p : Program) (loose : List Str) (mean : ExcName → Option Value) (mg mb : Str → Option Value) (q nl pn : Addr) (k1 k2 : Nat) (T : ST) (r c : Int) (σ : SV) (shv : Value) (t0 t1 t2 t3 u0 u1 u2 u3 : Tok) (hsh : ShIs shv σ.sh) (hG : Good σ r c) (hr : r ≤ 9) (hc : c ≤ 9) :
    Cr w p loose mean mg mb 8 1321 [.ref q] [(q, W.listOf #[.int σ.row t0, .int σ.col t1, .ref pn, .bool σ.gd, .bool σ.og, .bool σ.wt, .ref nl, .int σ.lf t2, .int σ.rt t3, shv, .bool σ.md] k1), (nl, W.listOf #[.bytes σ.b0 u0, .bytes σ.b1 u1, .bytes σ.b2 u2, .bytes σ.b3 u3] k2), (pn, pnO T σ)]
      (fun v l => ∃ (d : Addr) (its : List (Array UInt8 × Tok)) (k : Nat), v = .ref d ∧ l = [(d, W.listOf (bys its).toArray k)] ∧ its.map (·.1) = lawF σ) := _root_.id <| by
  have hhd := handed_of hsh
  obtain ⟨g1, g2, g3, g4, g5, g6, g7, g8, g9, g10, g11, g12, g13, g14, g15, g16⟩ := hG
  have c1 : 0 ≤ σ.row + 1 := by omega
  have c2 : σ.row + 1 ≤ 9 := by omega
  have c3 : 0 ≤ σ.col + 1 := by omega
  have c4 : σ.col + 1 ≤ 9 := by omega
  have c5 : σ.lf ≤ 9 := by omega
  have c6 : σ.rt ≤ 9 := by omega
  clear g1 g2 g3 g4 g8 g10 hr hc
  k_dflt (refine' Cr.of_body (binds := [(("state" : Str), .ref q)]) ?k6 ?k7 ?k9 ?kB ?c2 ?c3 ?c4 ?c5 ?_; (case k6 => k_is); (case k7 => k_is); (case k9 => exact rfl); (case kB => exact locs rfl); (case c2 => exact rfl); (case c3 => exact rfl); (case c4 => exact rfl); (case c5 => decide))
  intro dp un gd outer A₀ base g L h tk gs dr os Q B X Tp F N lL hd hu hQ
  revert hsh hhd g5 g6 g7 g9 g11 g12 g13 g14 g15 g16 c1 c2 c3 c4 c5 c6 B X Tp F N lL hd hu hQ
  revert w p loose mean mg mb q nl pn k1 k2 T r c σ shv t0 t1 t2 t3 u0 u1 u2 u3 dp un gd outer A₀ base g L h tk gs dr os Q
  k_extra "my d14"; intros w p loose mean mg mb q nl pn k1 k2 T r c; k_extra "my of"
  k_extra "my d14"; intros σ shv t0 t1 t2 t3 u0 u1 u2 u3 dp un gd outer; k_extra "my of"
  k_extra "my d8"; intros A₀ base g L h tk gs dr; k_extra "my of"
  k_extra "my d2"; intros os Q; k_extra "my of"
  intros hsh hhd g5 g6 g7 g9 g11 g12 g13 g14 g15 g16 c1 c2 c3 c4 c5 c6 B X Tp F N lL hd hu hQ
  haveI mk : Mark := Mark.mk
  try k_lt lL
  k_extra "my kclose"
  k_extra "my ks2"
  (rename News _ _ _ _ => lN)
  refine' hQ (.ret _) _ [(_, W.listOf (bys [(_, _), (_, _), (_, _), (_, _), (_, _), (_, _), (_, _), (_, _), (_, _), (_, _)]).toArray _)] _ _ _ ?ff ?nn ?sub ?ap ⟨_, _, _, rfl, rfl, rfl⟩
  case ff => assumption
  case nn => assumption
  case sub => (try simp only [List.cons_append, List.nil_append]); kcf_all
  case ap => exact List.forall_mem_cons.mpr ⟨List.forall_mem_cons.mpr ⟨apart_of lN (by k_mem) (by k_mem) rfl rfl (Nat.ne_of_beq_eq_false rfl), List.forall_mem_cons.mpr ⟨apart_of lN (by k_mem) (by k_mem) rfl rfl (Nat.ne_of_beq_eq_false rfl), List.forall_mem_cons.mpr ⟨apart_of lN (by k_mem) (by k_mem) rfl rfl (Nat.ne_of_beq_eq_false rfl), List.forall_mem_nil _⟩⟩⟩, List.forall_mem_nil _⟩
end
section
theorem kw_WNames_0 : True := by
  k_with "z35" => skip
  k_with "my kfold" => ((fail_if_success k_extra "z36"); skip)
  k_with "my kf" => ((fail_if_success k_extra "z36"); (k_extra "my kclose"))
  trivial
noncomputable def dnStep (bs : List Bool) (p : List (Array UInt8) × Array UInt8) (k : Int) : List (Array UInt8) × Array UInt8 :=
  if 48 ≤ k then (p.1 ++ [if decide (p.1.length < bs.length) && bs.getD p.1.length false then #[45] ++ (p.2 ++ byteArr [k]) else p.2 ++ byteArr [k]], #[]) else (p.1, p.2 ++ byteArr [k])
noncomputable def dnPre (b : Array UInt8) (bs : List Bool) (i : Nat) : List (Array UInt8) × Array UInt8 := ((KBw.bInts b).take i).foldl (dnStep bs) ([], #[])
noncomputable abbrev dnAll (b : Array UInt8) (bs : List Bool) : List (Array UInt8) × Array UInt8 := dnPre b bs (KBw.bInts b).length
theorem dnPre_succ {b : Array UInt8} {bs : List Bool} {i : Nat} {k : Int} (h : (KBw.bInts b)[i]? = some k) : dnPre b bs (i + 1) = dnStep bs (dnPre b bs i) k := by
  unfold dnPre
  rw [List.take_add_one, h]
  simp
theorem dnStep_len (bs : List Bool) (p : List (Array UInt8) × Array UInt8) (k : Int) : (dnStep bs p k).1.length + (dnStep bs p k).2.size ≤ p.1.length + p.2.size + 1 := by
  unfold dnStep
  split
  · simp
    try omega
  · simp [byteArr]
    try omega
theorem dnPre_len (b : Array UInt8) (bs : List Bool) : ∀ i, (dnPre b bs i).1.length + (dnPre b bs i).2.size ≤ i
  | 0 => by simp [dnPre]
  | i + 1 => by
    have ih := dnPre_len b bs i
    cases e : (KBw.bInts b)[i]? with
    | some k => rw [dnPre_succ e]; have := dnStep_len bs (dnPre b bs i) k; omega
    | none =>
      have e2 : (KBw.bInts b).length ≤ i := by simpa using e
      have e3 : dnPre b bs (i + 1) = dnPre b bs i := by unfold dnPre; rw [List.take_of_length_le e2, List.take_of_length_le (by omega)]
      rw [e3]; omega
structure DnAt (b : Array UInt8) (bs : List Bool) (i : Nat) (l q : Addr) (k : Nat) (m : Str → Option Value) (nx : Led) (its : List (Array UInt8 × Tok)) (nn : Nat) (u : Tok) : Prop where
  led : nx = [(l, W.listOf (bys its).toArray nn), (q, W.listOf (bl bs).toArray k)]
  its : its.map (·.1) = (dnPre b bs i).1
  names : m (Str.ofString "names") = some (.ref l)
  word : m (Str.ofString "word") = some (.bytes (dnPre b bs i).2 u)
  bits : m (Str.ofString "bits") = some (.ref q)
theorem bools_bl : ∀ bs : List Bool, LSm.BoolsAre (bl bs) bs
  | [] => .nil
  | b :: r => .cons b (bools_bl r)
noncomputable def DnJ (b : Array UInt8) (bs : List Bool) (l q : Addr) (k : Nat) (i : Nat) (m : Str → Option Value) (nx : Led) : Prop := ∃ its nn u, DnAt b bs i l q k m nx its nn u
section
variable {prog : Program} {w : World} {A : Around} {E : Value → Shared → Prop} {s : Shared} {env : Env} {h₀ : Heap} {x : PySem.Str} {body : List Stmt} {Q : Flow → Shared → Prop} {b : Array UInt8} {tb : Tok} {m₀ : PySem.Str → Option Value}
theorem dn_map {bs : List Bool} {i : Nat} {l q : Addr} {k : Nat} {m : Str → Option Value} {nx : Led} {its : List (Array UInt8 × Tok)} {nn : Nat} {u : Tok} (h : DnAt b bs i l q k m nx its nn u) :
    m = fun z => if z = Str.ofString "names" then some (.ref l) else if z = Str.ofString "word" then some (.bytes (dnPre b bs i).2 u) else if z = Str.ofString "bits" then some (.ref q) else m z := by
  funext z
  split
  · next e => rw [e]; exact h.names
  · split
    · next e => rw [e]; exact h.word
    · split
      · next e => rw [e]; exact h.bits
      · rfl
theorem bys_size (its : List (Array UInt8 × Tok)) : (bys its).toArray.size = its.length := by simp [bys]
theorem bl_size (bs : List Bool) : (bl bs).toArray.size = bs.length := by simp [bl]
theorem dn_loop {l q : Addr} {k : Nat} {bs : List Bool} (hs : b.size ≤ 64) (hh : A.handled = none) (F : Fr h₀ env.locals s.heap m₀) (N : News h₀ env.locals s.heap [(l, W.listOf #[] 0), (q, W.listOf (bl bs).toArray k)])
    (h0 : DnJ b bs l q k 0 m₀ [(l, W.listOf #[] 0), (q, W.listOf (bl bs).toArray k)])
    (turn : ∀ i x₁ t its nn u (m₂ : Str → Option Value) h tk own, (KBw.bInts b)[i]? = some x₁ → 0 ≤ x₁ → x₁ < 256 → OwnOff own [l, q] → its.map (·.1) = (dnPre b bs i).1 → its.length ≤ 64 → (dnPre b bs i).2.size ≤ 64 →
      Fr h₀ env.locals h (fun y => if y = x then some (.int x₁ t) else if y = Str.ofString "names" then some (.ref l) else if y = Str.ofString "word" then some (.bytes (dnPre b bs i).2 u) else if y = Str.ofString "bits" then some (.ref q) else m₂ y) →
      News h₀ env.locals h ((l, W.listOf (bys its).toArray nn) :: (q, W.listOf (bl bs).toArray k) :: own) →
      wpAny (model prog w) A (execs body env) (InvPostN h₀ env.locals (DnJ b bs l q k (i + 1)) own [l, q] { s with heap := h, toks := tk } Q) E { s with heap := h, toks := tk })
    (done : ∀ its nn u (m₂ : Str → Option Value) h tk, its.map (·.1) = (dnAll b bs).1 → its.length ≤ 64 →
      Fr h₀ env.locals h (fun y => if y = Str.ofString "names" then some (.ref l) else if y = Str.ofString "word" then some (.bytes (dnAll b bs).2 u) else if y = Str.ofString "bits" then some (.ref q) else m₂ y) →
      News h₀ env.locals h [(l, W.listOf (bys its).toArray nn), (q, W.listOf (bl bs).toArray k)] → Q .next { s with heap := h, toks := tk }) :
    wpAny (model prog w) A (pyIter (.bytes b tb)) (fun it s₂ => LoopAtV prog w A h₀ env x body Q E it s₂) E s := by
  refine KBmo.iter_bytesN (DnJ b bs l q k) rfl hh F N h0 ?_ ?_
  · rintro i x₁ t m₁ news₁ h tk own hi hlo hhi hoff ⟨its, nn, u, D⟩ F₁ N₁
    rw [dn_map D] at F₁
    rw [D.led] at N₁
    have hx0 := (List.getElem?_eq_some_iff.mp hi).1
    rw [KBw.ints_length] at hx0
    have hx3 := dnPre_len b bs i
    have hx4 : its.length = (dnPre b bs i).1.length := by rw [← D.its, List.length_map]
    have hx1 : its.length ≤ 64 := by omega
    have hx2 : (dnPre b bs i).2.size ≤ 64 := by omega
    exact turn i x₁ t its nn u m₁ h tk own hi hlo hhi hoff D.its hx1 hx2 F₁ N₁
  · rintro m₁ news₁ h tk ⟨its, nn, u, D⟩ F₁ N₁
    rw [dn_map D] at F₁
    rw [D.led] at N₁
    have hx3 := dnPre_len b bs (KBw.bInts b).length
    rw [KBw.ints_length] at hx3
    have hx4 : its.length = (dnPre b bs (KBw.bInts b).length).1.length := by rw [← D.its, List.length_map]
    rw [KBw.ints_length] at hx4
    exact done its nn u m₁ h tk D.its (by omega) F₁ N₁
end
theorem kw_WNames_1 : True := by
  k_with "my pyIter" => ((fail_if_success k_extra "z36"); ((k_here; k_dflt ((rename Fr _ _ _ _ => lF'); (rename News _ _ _ _ => lN'); (rename List Bool => bs'); (rename Array UInt8 => b'); (rename Array.size _ ≤ 64 => hs'); (refine dn_loop (s := ⟨_, _, _, _, _⟩) (b := b') (bs := bs') hs' (by rfl) lF' (News.tl lN') ⟨[], _, _, rfl, rfl, rfl, rfl, rfl⟩ ?_ ?_); clear lF' lN'); (all_goals intros))))
  k_with "my subscriptTail" => ((fail_if_success k_extra "z36"); ((k_here; (with_reducible show wpAny _ _ (subscriptTail _ _ (Value.ref _) (Value.int _ _)) _ _ _); k_dflt (refine' kbo_sub ?k1_121 ?k2_121 (bools_bl _) ?k4_121 ?k5_121 ?k6_121 ?_ ?k7_121; (case k1_121 => k_asm); (case k2_121 => k_mem); (case k4_121 => omega); (case k5_121 => omega); (case k6_121 => omega); (case k7_121 => with_unfolding_all rfl); k_whole))))
  trivial
section
variable {prog : Program} {w : World} {A : Around} {E : Value → Shared → Prop} {s : Shared} {h₀ : Heap} {L : Addr} {m : Str → Option Value} {Q : Value → Shared → Prop}
theorem dn_append {d l q : Addr} {oD oq : Obj} {its : List (Array UInt8 × Tok)} {nn : Nat} {own : Led} {x : Array UInt8} {t : Tok} (F : Fr h₀ L s.heap m) (N : News h₀ L s.heap ((d, oD) :: (l, W.listOf (bys its).toArray nn) :: (q, oq) :: own))
    (hql : @LT.lt Nat _ q l) (hoff : OwnOff own [l, q]) (hlen : its.length ≤ 64)
    (h : ∀ h', Fr h₀ L h' m → News h₀ L h' ((l, W.listOf (bys (its ++ [(x, t)])).toArray (nn + 1)) :: (q, oq) :: own) → Q .none { s with heap := h' }) :
    wpAny (model prog w) A (call (.builtin "list.append") [.ref l, .bytes x t]) Q E s := by
  have z := N (l, W.listOf (bys its).toArray nn) (.tail _ (.head _))
  refine append_at (hsz := by rw [bys_size]; exact Nat.le_trans hlen (by decide)) z.1 fun h' hs' hD' => h h' (F.change hs' z.2.1 z.2.2) ?_
  intro p hp
  rcases List.mem_cons.mp hp with rfl | hp
  · refine ⟨hD'.trans ?_, z.2⟩
    simp [bys, W.listOf]
  · rcases List.mem_cons.mp hp with rfl | hp
    · have y := N (q, oq) (.tail _ (.tail _ (.head _)))
      exact ⟨hs'.extBut _ _ (Nat.ne_of_lt hql) y.1, y.2⟩
    · have y := N p (.tail _ (.tail _ (.tail _ hp)))
      exact ⟨hs'.extBut _ _ (hoff p hp l (.head _)) y.1, y.2⟩
end
section
variable {b : Array UInt8} {bs : List Bool} {i : Nat} {x : Int} {its : List (Array UInt8 × Tok)}
theorem dn_getD (h : its.map (·.1) = (dnPre b bs i).1) : (dnPre b bs i).1.length = its.length := by rw [← h, List.length_map]
theorem dn_long (hi : (KBw.bInts b)[i]? = some x) (h48 : 48 ≤ x) (hl : (its.length : Int) < (bs.length : Int)) (hg : bs.getD (its.length : Int).toNat false = true) (h : its.map (·.1) = (dnPre b bs i).1) :
    (∀ t, List.map (fun p : Array UInt8 × Tok => p.1) (its ++ [(#[45] ++ ((dnPre b bs i).2 ++ #[x.toNat.toUInt8]), t)]) = (dnPre b bs (i + 1)).1) ∧ ∀ u, some (Value.bytes #[] u) = some (.bytes (dnPre b bs (i + 1)).2 u) := by
  rw [Int.toNat_natCast] at hg
  have hl' : its.length < bs.length := by omega
  rw [dnPre_succ hi]
  unfold dnStep
  rw [if_pos h48, dn_getD h, hg, decide_eq_true hl']
  exact ⟨fun t => by rw [List.map_append, h]; rfl, fun _ => rfl⟩
theorem dn_short (hi : (KBw.bInts b)[i]? = some x) (h48 : 48 ≤ x) (hg : bs.getD (its.length : Int).toNat false = false) (h : its.map (·.1) = (dnPre b bs i).1) :
    (∀ t, List.map (fun p : Array UInt8 × Tok => p.1) (its ++ [((dnPre b bs i).2 ++ #[x.toNat.toUInt8], t)]) = (dnPre b bs (i + 1)).1) ∧ ∀ u, some (Value.bytes #[] u) = some (.bytes (dnPre b bs (i + 1)).2 u) := by
  rw [Int.toNat_natCast] at hg
  rw [dnPre_succ hi]
  unfold dnStep
  rw [if_pos h48, dn_getD h, hg, Bool.and_false]
  exact ⟨fun t => by rw [List.map_append, h]; rfl, fun _ => rfl⟩
theorem dn_far (hi : (KBw.bInts b)[i]? = some x) (h48 : 48 ≤ x) (hl : ¬ (its.length : Int) < (bs.length : Int)) (h : its.map (·.1) = (dnPre b bs i).1) :
    (∀ t, List.map (fun p : Array UInt8 × Tok => p.1) (its ++ [((dnPre b bs i).2 ++ #[x.toNat.toUInt8], t)]) = (dnPre b bs (i + 1)).1) ∧ ∀ u, some (Value.bytes #[] u) = some (.bytes (dnPre b bs (i + 1)).2 u) := by
  have hl' : ¬ its.length < bs.length := by omega
  rw [dnPre_succ hi]
  unfold dnStep
  rw [if_pos h48, dn_getD h, decide_eq_false hl', Bool.false_and]
  exact ⟨fun t => by rw [List.map_append, h]; rfl, fun _ => rfl⟩
theorem dn_low (hi : (KBw.bInts b)[i]? = some x) (h48 : ¬ 48 ≤ x) (h : its.map (·.1) = (dnPre b bs i).1) :
    its.map (·.1) = (dnPre b bs (i + 1)).1 ∧ ∀ u, some (Value.bytes ((dnPre b bs i).2 ++ #[x.toNat.toUInt8]) u) = some (.bytes (dnPre b bs (i + 1)).2 u) := by
  rw [dnPre_succ hi]
  unfold dnStep
  rw [if_neg h48]
  exact ⟨h, fun _ => rfl⟩
theorem dn_yes (h : its.map (·.1) = (dnAll b bs).1) (h4 : (its.length : Int) = 4) (he : ((dnAll b bs).2.toList == []) = true) : (dnAll b bs).1.length = 4 ∧ (dnAll b bs).2 = #[] := by
  refine ⟨by rw [dn_getD h]; omega, ?_⟩
  apply Array.toList_inj.mp
  simpa using he
theorem dn_no1 (he : ((dnAll b bs).2.toList == []) = false) : ¬ ((dnAll b bs).1.length = 4 ∧ (dnAll b bs).2 = #[]) := by
  rintro ⟨_, e⟩
  rw [e] at he
  cases he
theorem dn_no2 (h : its.map (·.1) = (dnAll b bs).1) (h4 : (its.length : Int) ≠ 4) : ¬ ((dnAll b bs).1.length = 4 ∧ (dnAll b bs).2 = #[]) := by
  rintro ⟨e, _⟩
  rw [dn_getD h] at e
  omega
end
theorem kw_WNames_2 : True := by
  k_with "my call builtin:list.append" => ((fail_if_success k_extra "z36"); ((k_here; k_dflt (refine dn_append (s := ⟨_, _, _, _, _⟩) (by k_asm) (by k_asm) (by assumption) (by assumption) (by assumption) ?_); intro h' F' N')))
  trivial
theorem dn_end {h₀ h' : Heap} {L l q : Addr} {m : Str → Option Value} {own : Led} {b : Array UInt8} {bs : List Bool} {its : List (Array UInt8 × Tok)} {nn k i tk : Nat} {s₁ : Shared} {u : Tok} (F : Fr h₀ L h' m) (N : News h₀ L h' ((l, W.listOf (bys its).toArray nn) :: (q, W.listOf (bl bs).toArray k) :: own))
    (e1 : its.map (·.1) = (dnPre b bs (i + 1)).1) (e2 : m (Str.ofString "word") = some (.bytes (dnPre b bs (i + 1)).2 u)) (e3 : m (Str.ofString "names") = some (.ref l)) (e4 : m (Str.ofString "bits") = some (.ref q)) :
    InvEndN h₀ L (DnJ b bs l q k (i + 1)) own [l, q] s₁ { s₁ with heap := h', toks := tk } :=
  InvEndN.intro (nx := [(l, W.listOf (bys its).toArray nn), (q, W.listOf (bl bs).toArray k)]) F N ⟨its, nn, u, rfl, e1, e3, e2, e4⟩ rfl (fun p hp => by
    rcases List.mem_cons.mp hp with rfl | hp
    · exact .head _
    · rw [List.mem_singleton.mp hp]; exact .tail _ (.head _)) fun p hp => .tail _ (.tail _ hp)
theorem kw_WNames_3 : True := by
  k_with "my InvEndN" => ((fail_if_success k_extra "z36"); ((k_dflt (first | (have e := dn_long (by assumption) (by assumption) (by assumption) (by assumption) (by assumption); exact dn_end (by assumption) (by assumption) (e.1 _) (e.2 _) rfl rfl) | (have e := dn_short (by assumption) (by assumption) (by assumption) (by assumption); exact dn_end (by assumption) (by assumption) (e.1 _) (e.2 _) rfl rfl) | (have e := dn_far (by assumption) (by assumption) (by assumption) (by assumption); exact dn_end (by assumption) (by assumption) (e.1 _) (e.2 _) rfl rfl) | (have e := dn_low (by assumption) (by assumption) (by assumption); exact dn_end (by assumption) (News.tl (by assumption)) (e.1) (e.2 _) rfl rfl)))))
  k_with "my binaryOp Add bytes bytes" => ((fail_if_success k_extra "z36"); ((k_here; k_dflt (refine KBy.add_bytes (by (simp only [Array.size_append, List.size_toArray, List.length_cons, List.length_nil]; omega)) ?_); intro _ _)))
  k_with "my call builtin:len" => ((fail_if_success k_extra "z36"); ((k_here; (with_reducible show wpAny _ _ (call (Value.builtin _) [Value.ref _]) _ _ _); k_dflt (first
  | (refine KM.len_K (s := ⟨_, _, _, _, _⟩) (by k_asm) (by k_mem) (bys_size _) (by omega) ?_)
  | (refine KM.len_K (s := ⟨_, _, _, _, _⟩) (by k_asm) (by k_mem) (bl_size _) (by omega) ?_)))))
  trivial
set_option maxHeartbeats 8000000 in
theorem dn_ok (w : World) (p : Program) (loose : List Str) (mean : ExcName → Option Value) (mg mb : Str → Option Value) (b : Array UInt8) (t : Tok) (q : Addr) (k : Nat) (bs : List Bool) (hb : bs.length = 4) (hs : b.size ≤ 64) :
    Cr w p loose mean mg mb 6 140 [.bytes b t, .ref q] [(q, W.listOf (bl bs).toArray k)] (fun v l => if (dnAll b bs).1.length = 4 ∧ (dnAll b bs).2 = #[] then ∃ d its k, v = .ref d ∧ l = [(d, W.listOf (bys its).toArray k)] ∧ its.map (·.1) = (dnAll b bs).1 else v = .none ∧ l = []) := _root_.id <| by
  k_dflt (refine' Cr.of_body (binds := [(("octets" : Str), .bytes b t), (("bits" : Str), .ref q)]) ?k6 ?k7 ?k9 ?kB ?c2 ?c3 ?c4 ?c5 ?_; (case k6 => k_is); (case k7 => k_is); (case k9 => exact rfl); (case kB => exact locs rfl); (case c2 => exact rfl); (case c3 => exact rfl); (case c4 => exact rfl); (case c5 => decide))
  intro dp un gd outer A₀ base g L h tk gs dr os Q B X Tp F N lL hd hu hQ
  revert hb hs B X Tp F N lL hd hu hQ
  revert w p loose mean mg mb b t q k bs dp un gd outer A₀ base g L h tk gs dr os Q
  k_extra "my d14"; intros w p loose mean mg mb b t q k bs dp un gd; k_extra "my of"
  k_extra "my d8"; intros outer A₀ base g L h tk gs; k_extra "my of"
  k_extra "my d3"; intros dr os Q; k_extra "my of"
  intros hb hs B X Tp F N lL hd hu hQ
  haveI mk : Mark := Mark.mk
  try k_lt lL
  k_extra "my kclose"
  k_extra "my ks2"
  · refine' hQ (.ret _) _ [(_, W.listOf (bys _).toArray _)] _ _ _ ?ff ?nn ?sub ?ap (by (dsimp only); rw [if_pos (dn_yes (by assumption) (by assumption) (by assumption))]; exact ⟨_, _, _, rfl, rfl, by assumption⟩)
    case ff => assumption
    case nn => assumption
    case sub => (try simp only [List.cons_append, List.nil_append]); kcf_all
    case ap => exact List.forall_mem_cons.mpr ⟨List.forall_mem_cons.mpr ⟨Nat.ne_of_lt (by assumption), List.forall_mem_nil _⟩, List.forall_mem_nil _⟩
  · refine' hQ (.ret _) _ [] _ _ _ ?ff ?nn ?sub ?ap (by (dsimp only); rw [if_neg (dn_no1 (by assumption))]; exact ⟨rfl, rfl⟩)
    case ff => assumption
    case nn => assumption
    case sub => (try simp only [List.cons_append, List.nil_append]); kcf_all
    case ap => exact List.forall_mem_nil _
  · refine' hQ (.ret _) _ [] _ _ _ ?ff ?nn ?sub ?ap (by (dsimp only); rw [if_neg (dn_no2 (by assumption) (by assumption))]; exact ⟨rfl, rfl⟩)
    case ff => assumption
    case nn => assumption
    case sub => (try simp only [List.cons_append, List.nil_append]); kcf_all
    case ap => exact List.forall_mem_nil _
end
section
local macro_rules | `(tactic| k_lt $h:ident) => `(tactic| clear $h)
theorem kw_WReads_0 : True := by
  k_with "z36" => skip
  trivial
theorem Cr.mono {w : World} {p : Program} {loose : List Str} {mean : ExcName → Option Value} {mg mb : Str → Option Value} {D : Nat} {f : Addr} {vs : List Value} {small : Led} {P P' : Value → Led → Prop} (C : Cr w p loose mean mg mb D f vs small P) (h : ∀ v l, P v l → P' v l) : Cr w p loose mean mg mb D f vs small P' := by
  intro rest dis dp un gd cn cs a ccd cl outer A₀ base h₀ L m s Q E B F X N T hk hd hu hr
  exact C rest dis dp un gd cn cs a ccd cl outer A₀ base h₀ L m s Q E B F X N T hk hd hu fun v l hP => hr v l (h v l hP)
inductive NumF : Array UInt8 → Option Int → Prop
  | dig (x : Int) : 0 ≤ x → x ≤ 9 → NumF (byteArr [48 + x]) (some x)
  | nil : NumF #[] none
  | x : NumF #[120] none
  | m1 : NumF #[45, 49] none
theorem num_all (w : World) (p : Program) (loose : List Str) (mean : ExcName → Option Value) (mg mb : Str → Option Value) {b : Array UInt8} {o : Option Int} (t : Tok) (h : NumF b o) : Cr w p loose mean mg mb 4 76 [.bytes b t] [] (fun v l => ShIs v o ∧ l = []) := by
  cases h with
  | dig x h0 h1 =>
    refine Cr.mono (num_dig w p loose mean mg mb (48 + x) t (by omega) (by omega)) fun v l P => ?_
    obtain ⟨⟨t', e⟩, e2⟩ := P
    exact ⟨⟨t', by rw [e]; congr 1; omega⟩, e2⟩
  | nil => exact num_nil w p loose mean mg mb t
  | x => exact num_x w p loose mean mg mb t
  | m1 => exact num_m1 w p loose mean mg mb t
set_option maxHeartbeats 2000000 in
theorem obits_len (w : World) (p : Program) (loose : List Str) (mean : ExcName → Option Value) (mg mb : Str → Option Value) (b : Array UInt8) (t : Tok) (m : Int) (t2 : Tok) (hb : b.size ≠ 1) (hs : b.size ≤ 64) :
    Cr w p loose mean mg mb 4 128 [.bytes b t, .int m t2] [] (fun v l => v = .none ∧ l = []) := _root_.id <| by
  k_dflt (refine' Cr.of_bodyC (binds := [(("octets" : Str), .bytes b t), (("many" : Str), .int m t2)]) ?k6 ?k7 ?k9 ?kB ?kD ?c2 ?c3 ?c4 ?_; (case k6 => k_is); (case k7 => k_is); (case k9 => exact rfl); (case kB => exact rfl); (case kD => decide +kernel); (case c2 => exact rfl); (case c3 => exact rfl); (case c4 => exact rfl))
  intro dp un gd outer A₀ base g L h tk gs dr os cells Q B X Tp F N Y lL hd hu hQ
  (try k_lt lL)
  k_cells Y
  (try simp only [List.cons_append, List.nil_append] at N)
  (try dsimp only)
  k_extra "my ks2"
  all_goals first
  | (exfalso; omega)
  | skip
  refine' hQ (.ret _) _ [] _ _ _ ?ff ?nn ?sub ?ap ⟨rfl, rfl⟩
  case ff => assumption
  case nn => assumption
  case sub => (try simp only [List.cons_append, List.nil_append]); kcf_all
  case ap => exact List.forall_mem_nil _
inductive OctF : Int → Array UInt8 → Option (List Bool) → Prop
  | ok4 (x : Int) : 64 ≤ x → x ≤ 126 → OctF 4 (byteArr [x]) (some [bt x 0, bt x 1, bt x 2, bt x 3])
  | ok1 (x : Int) : 64 ≤ x → x ≤ 126 → OctF 1 (byteArr [x]) (some [bt x 0])
  | len (m : Int) (b : Array UInt8) : b.size ≠ 1 → b.size ≤ 64 → OctF m b none
  | q (m : Int) : OctF m #[63] none
  | d (m : Int) : OctF m #[127] none
theorem OctF.len4 {b : Array UInt8} {bs : List Bool} (h : OctF 4 b (some bs)) : bs.length = 4 := by cases h; rfl
noncomputable def OctR (o : Option (List Bool)) (v : Value) (l : Led) : Prop := match o with
  | none => v = .none ∧ l = []
  | some bs => ∃ q k, v = .ref q ∧ l = [(q, W.listOf (bl bs).toArray k)]
theorem oct_all (w : World) (p : Program) (loose : List Str) (mean : ExcName → Option Value) (mg mb : Str → Option Value) {m : Int} {b : Array UInt8} {o : Option (List Bool)} (t t2 : Tok) (h : OctF m b o) : Cr w p loose mean mg mb 4 128 [.bytes b t, .int m t2] [] (fun v l => OctR o v l) := by
  cases h with
  | ok4 x h0 h1 => exact obits4 w p loose mean mg mb x t t2 h0 h1
  | ok1 x h0 h1 => exact obits1 w p loose mean mg mb x t t2 h0 h1
  | len _ _ h0 h1 => exact obits_len w p loose mean mg mb b t m t2 h0 h1
  | q => exact obits_q w p loose mean mg mb t m t2
  | d => exact obits_d w p loose mean mg mb t m t2
noncomputable def OctV (o : Option (List Bool)) (v : Value) (q : Addr) (ob : Obj) : Prop := match o with
  | none => v = .none
  | some bs => v = .ref q ∧ ∃ k, ob = W.listOf (bl bs).toArray k
theorem oct_in {o : Option (List Bool)} {v : Value} {l news : Led} {e : Addr × Obj} {h₀ h : Heap} {L : Addr} (P : OctR o v l) (N : News h₀ L h (l ++ e :: news)) : ∃ q ob, OctV o v q ob ∧ News h₀ L h ((q, ob) :: e :: news) := by
  cases o with
  | none =>
    obtain ⟨e1, e2⟩ := P
    subst e2
    exact ⟨e.1, e.2, e1, fun p hp => by
      rcases List.mem_cons.mp hp with rfl | hp
      · exact N e (.head _)
      · exact N p hp⟩
  | some bs =>
    obtain ⟨q, k, e1, e2⟩ := P
    subst e2
    exact ⟨q, _, ⟨e1, k, rfl⟩, N⟩
end
section
local macro_rules | `(tactic| k_lt $h:ident) => `(tactic| clear $h)
theorem kw_WCf_0 : True := by
  k_with "z37" => skip
  k_with "my kfold" => ((fail_if_success k_extra "z38"); skip)
  k_with "my kf" => ((fail_if_success k_extra "z38"); (k_extra "my kclose"))
  trivial
open PySem.Builtin.Bytes (joined)
noncomputable def tg (g : Nat → Tok) : Nat → List (Array UInt8) → List (Array UInt8 × Tok)
  | _, [] => []
  | i, f :: r => (f, g i) :: tg g (i + 1) r
theorem kw_WCf_1 : True := by
  k_with "my getMethod bytes" => ((fail_if_success k_extra "z38"); ((k_here; first | (with_reducible refine meth_join ?_) | (with_reducible refine meth_split ?_))))
  trivial
theorem tg_go (g : Nat → Tok) : ∀ (l : List (Array UInt8 × Tok)) (k : Nat), (∀ (i : Nat) (p : Array UInt8 × Tok), l[i]? = some p → p.2 = g (k + i)) → l = tg g k (l.map (·.1))
  | [], _, _ => rfl
  | (f, t) :: r, k, h => by
    have h0 := h 0 (f, t) rfl
    have ih := tg_go g r (k + 1) fun i p hp => by rw [h (i + 1) p hp]; congr 1; omega
    show (f, t) :: r = (f, g k) :: tg g (k + 1) (r.map (·.1))
    rw [← ih, ← show t = g k from h0]
theorem tg_of {l : List (Array UInt8 × Tok)} {fs : List (Array UInt8)} (h : l.map (·.1) = fs) : ∃ g, l = tg g 0 fs := by
  subst h
  exact ⟨fun i => (l.getD i (#[], 0)).2, tg_go _ l 0 fun i p hp => by rw [Nat.zero_add, List.getD_eq_getElem?_getD, hp]; rfl⟩
theorem kw_WCf_2 : True := by
  k_with "my call ref" => ((fail_if_success k_extra "z38"); ((k_here; (with_reducible show wpAny _ _ (call (Value.ref 76) _) _ _ _); k_dflt (refine' Cr.use (num_all _ _ _ _ _ _ _ ?p1_128) (List.forall_mem_nil _) ?B_128 ?F_128 ?X_128 ?N_128 ?T_128 ?hk_128 ?hd_128 ?hu_128 ?_; (case N_128 => k_asm); (case p1_128 => assumption); (case B_128 => assumption); (case F_128 => k_asm); (case X_128 => assumption); (case T_128 => assumption); (case hk_128 => rfl); (case hd_128 => ktr_room); (case hu_128 => ktr_units)); intro v1 l1 P1 ap1 h' tk' F' N'; (obtain ⟨V1, e2⟩ := P1); (subst e2); (try simp only [List.nil_append] at N'))))
  k_with "my call ref" => ((fail_if_success k_extra "z38"); ((k_here; (with_reducible show wpAny _ _ (call (Value.ref 128) _) _ _ _); k_dflt (refine' Cr.use (oct_all _ _ _ _ _ _ _ _ ?p1_129) (List.forall_mem_nil _) ?B_129 ?F_129 ?X_129 ?N_129 ?T_129 ?hk_129 ?hd_129 ?hu_129 ?_; (case N_129 => k_asm); (case p1_129 => assumption); (case B_129 => assumption); (case F_129 => k_asm); (case X_129 => assumption); (case T_129 => assumption); (case hk_129 => rfl); (case hd_129 => ktr_room); (case hu_129 => ktr_units)); intro v1 l1 P1 ap1 h' tk' F' N'; (clear ap1); (obtain ⟨qo, ob, V1, N'⟩ := oct_in P1 N'); clear P1)))
  trivial
section
variable {prog : Program} {w : World} {A : Around} {h₀ : Heap} {L : Addr} {m : Str → Option Value} {env : Env} {elt : PySem.Expr} {x : Str} {scope : Scope} {cl : List (Str × Addr)} {s : Shared} {S : Led → Prop} {Fin : List Value → Led → Prop} {news : Led}
theorem cx_num {f0 f1 f2 : Array UInt8} {t0 t1 t2 : Tok} {o0 o1 o2 : Option Int} (n0 : NumF f0 o0) (n1 : NumF f1 o1) (n2 : NumF f2 o2)
    (turn : ∀ (f : Array UInt8) (t : Tok) (o : Option Int) I oI C oC D m₂ ys h tk (E' : Value → Shared → Prop), NumF f o → LCg.NsObj oC m₂ → m₂ x = some (.bytes f t) → Fr h₀ L h m → News h₀ L h ((I, oI) :: (C, oC) :: (D, LCg.lst ys) :: news) → LCg.Off3 I C D news → ((@Ne Nat I C) ∧ (@Ne Nat I D) ∧ (@Ne Nat C D)) →
      wpAny (model prog w) A (eval elt (compEnvC scope cl C env)) (LCg.CompEnd h₀ L m { s with heap := h, toks := tk } I oI C oC D (LCg.lst ys) S (fun y news' => CXEl news (fun y => ShIs y o) y news')) E' { s with heap := h, toks := tk })
    (fin : ∀ v0 v1 v2, ShIs v0 o0 → ShIs v1 o1 → ShIs v2 o2 → Fin [v0, v1, v2] news) : LCg.CompRest prog w A h₀ L m env elt x scope cl s S (fun i v => #[Value.bytes f0 t0, .bytes f1 t1, .bytes f2 t2][i]? = some v) Fin 3 0 [] news := by
  refine cx_list (fun i y => ∃ o, [o0, o1, o2][i]? = some o ∧ ShIs y o) (fun i v I oI C oC D m₂ ys h tk E' hi hC hx F N off ne => ?_) fun ys hys hR => ?_
  · have : ∃ f t o, v = .bytes f t ∧ NumF f o ∧ [o0, o1, o2][i]? = some o := by
      rcases i with _ | _ | _ | i
      · cases hi; exact ⟨_, _, _, rfl, n0, rfl⟩
      · cases hi; exact ⟨_, _, _, rfl, n1, rfl⟩
      · cases hi; exact ⟨_, _, _, rfl, n2, rfl⟩
      · cases hi
    obtain ⟨f, t, o, rfl, hn, ho⟩ := this
    refine wpAny_mono (turn f t o I oI C oC D m₂ ys h tk E' hn hC hx F N off ne) (fun y s₂ hq => ?_) fun _ _ e => e
    obtain ⟨h', tk', nw, e, F', N', off', hS, hn', hy⟩ := hq
    exact ⟨h', tk', nw, e, F', N', off', hS, hn', o, ho, hy⟩
  · match ys, hys with
    | [a, b, c], _ =>
      obtain ⟨_, e0, ha⟩ := hR 0 a rfl
      obtain ⟨_, e1, hb⟩ := hR 1 b rfl
      obtain ⟨_, e2, hc⟩ := hR 2 c rfl
      cases e0; cases e1; cases e2
      exact fin a b c ha hb hc
end
theorem kw_WCf_3 : True := by
  k_with "my eval ListComp" => ((fail_if_success k_extra "z38"); ((k_here; k_dflt (refine LCg.ListComp_U (F₀ := by k_asm) (by rfl) (by decide) (by rfl) (by decide) (by rfl) ?_))))
  k_with "my CompSrc" => ((fail_if_success k_extra "z38"); ((k_here; k_dflt (refine LCg.CompSrc.ledger (by rfl) (by k_asm) (by k_asm) (by k_mem) (by exact Nat.le_of_ble_eq_true rfl) ?_; intro g'; (refine' cx_num (by assumption) (by assumption) (by assumption) (fun f' t' o' I' oI' C' oC' D' m' ys' h' tk' E' hv' hC' hx' F' N' off' ne' => ?_) ?_); (all_goals (try (simp only [LCg.Off3, and_true] at off'))); kcf_last))))
  k_with "my CompEnd" => ((fail_if_success k_extra "z38"); ((k_here; k_dflt (refine cx_end (by assumption) (by assumption) (by kcf_all) (by first | assumption | (simp only [LCg.Off3, and_true]; done) | (simp only [LCg.Off3, and_true]; assumption)) (by first | lcg_src | assumption | exact True.intro) (by assumption)))))
  k_with "my call builtin:bytes.split" => ((fail_if_success k_extra "z38"); ((k_here; k_dflt ((refine bytes_split3 (s := ⟨_, _, _, _, _⟩) [_, _, _, _, _, _, _, _, _, _] (by k_asm) (by k_asm) (by assumption) (by decide) (by decide) (Nat.le_of_ble_eq_true rfl) ?_); intro D' l' h' tk' hl' F' N' l1; clear l1; (obtain ⟨gt', el⟩ := tg_of hl'); subst el; clear hl'; (simp only [bys, tg, List.map_cons, List.map_nil, Nat.zero_add, Nat.reduceAdd] at N')))))
  k_with "my subscriptTail Name Slice ref ref" => ((fail_if_success k_extra "z38"); ((k_here; k_dflt ((refine' kms_slice_lit (s := ⟨_, _, _, _, _⟩) (zs := [_, _, _]) ?F_134 ?N_134 ?l_134 ?p_134 ?q_134 ?e_134 ?_ ?s_134 ?t_134 ?z_134; (case F_134 => k_asm); (case N_134 => k_asm); (case l_134 => kmk_list); (case p_134 => kmk_part); (case q_134 => kmk_part); (case e_134 => exact rfl); (case s_134 => with_unfolding_all rfl); (case t_134 => kmk_pure); (case z_134 => exact Nat.le_of_ble_eq_true rfl)); intro D' h' F' N' l1; (try k_lt l1)))))
  trivial
section
variable {prog : Program} {w : World} {A : Around} {E : Value → Shared → Prop} {s : Shared} {h₀ : Heap} {L : Addr} {news : Led} {Q : Value → Shared → Prop}
theorem item_led {value slice : PySem.Expr} {D : Addr} {its : Array Value} {n : Nat} {k : Int} {u : Tok} {v : Value} (N : News h₀ L s.heap news) (hm : (D, W.listOf its n) ∈ news) (h0 : 0 ≤ k) (hfit : k < 2 ^ 63) (hv : its.toList[k.toNat]? = some v) (h : Q v s)
    (hs : subscripted slice false (.ref D) (.int k u) = operate [.ref D, .int k u] (getItem (.ref D) (.int k u)) := by with_unfolding_all rfl) : wpAny (model prog w) A (subscriptTail value slice (.ref D) (.int k u)) Q E s :=
  tail_any (PySem.IsL.isList (n := n) (N _ hm).1).typeIs slot_list_getitem.lookup (wpAny_getItem_list (PySem.IsL.isList (n := n) (N _ hm).1) h0 hfit (by rw [← Array.getElem?_toList]; exact hv) h) hs
end
noncomputable def isN : Value → Bool
  | .none => true
  | _ => false
theorem kw_WCf_4 : True := by
  k_with "my subscriptTail Name Constant ref int" => ((fail_if_success k_extra "z38"); ((k_here; k_dflt (refine item_led (s := ⟨_, _, _, _, _⟩) (by k_asm) (by k_mem) (by decide) (by decide) (by rfl) ?_))))
  trivial
theorem isN_sh {v : Value} {o : Option Int} (h : ShIs v o) : isN v = o.isNone := by
  cases o with
  | none => rw [show v = .none from h]; rfl
  | some x => obtain ⟨t, rfl⟩ := (show ∃ t, v = .int x t from h); rfl
theorem isN_oct {v : Value} {o : Option (List Bool)} {q : Addr} {ob : Obj} (h : OctV o v q ob) : isN v = o.isNone := by
  cases o with
  | none => rw [show v = .none from h]; rfl
  | some x => rw [(show v = .ref q ∧ _ from h).1]; rfl
section
variable {prog : Program} {w : World} {A : Around} {E : Value → Shared → Prop} {s : Shared} {h₀ : Heap} {L : Addr} {news : Led} {Q : Value → Shared → Prop}
theorem eqn_sh {v : Value} {o : Option Int} (h : ShIs v o) : SeqAt.EqAt A s v .none (isN v) := by
  cases o with
  | none => rw [show v = .none from h]; exact SeqAt.EqAt.same .none
  | some x => obtain ⟨t, rfl⟩ := (show ∃ t, v = .int x t from h); exact SeqAt.EqAt.int_none x t
theorem eqn_oct {v : Value} {o : Option (List Bool)} {q : Addr} {ob : Obj} (N : News h₀ L s.heap news) (hu : A.units < cLine) (h : OctV o v q ob) (hm : (q, ob) ∈ news) : SeqAt.EqAt A s v .none (isN v) := by
  cases o with
  | none => rw [show v = .none from h]; exact SeqAt.EqAt.same .none
  | some bs =>
    obtain ⟨rfl, k, rfl⟩ := (show v = .ref q ∧ ∃ k, ob = W.listOf (bl bs).toArray k from h)
    exact SeqAt.EqAt.list_none (News.isList N hm) hu
inductive AllSome : Value → Option Int → Value → Option Int → Value → Option Int → Value → Option Int → Value → Option Int → Value → Option (List Bool) → Addr → Obj → Value → Option (List Bool) → Addr → Obj → Value → Option (List Bool) → Addr → Obj → Value → Option (List Bool) → Addr → Obj → Prop
  | mk (x0 : Int) (t0 : Tok) (x1 : Int) (t1 : Tok) (x2 : Int) (t2 : Tok) (x6 : Int) (t6 : Tok) (x7 : Int) (t7 : Tok) (bs3 : List Bool) (q3 : Addr) (k3 : Nat) (bs4 : List Bool) (q4 : Addr) (k4 : Nat) (bs5 : List Bool) (q5 : Addr) (k5 : Nat) (bs8 : List Bool) (q8 : Addr) (k8 : Nat) : AllSome (.int x0 t0) (some x0) (.int x1 t1) (some x1) (.int x2 t2) (some x2) (.int x6 t6) (some x6) (.int x7 t7) (some x7) (.ref q3) (some bs3) q3 (W.listOf (bl bs3).toArray k3) (.ref q4) (some bs4) q4 (W.listOf (bl bs4).toArray k4) (.ref q5) (some bs5) q5 (W.listOf (bl bs5).toArray k5) (.ref q8) (some bs8) q8 (W.listOf (bl bs8).toArray k8)
theorem sh_some {v : Value} {o : Option Int} (h : ShIs v o) (n : ¬ isN v = true) : ∃ x t, v = .int x t ∧ o = some x := by
  cases o with
  | none => exact absurd (by rw [show v = .none from h]; rfl) n
  | some x => obtain ⟨t, e⟩ := (show ∃ t, v = .int x t from h); exact ⟨x, t, e, rfl⟩
theorem oct_some {v : Value} {o : Option (List Bool)} {q : Addr} {ob : Obj} (h : OctV o v q ob) (n : ¬ isN v = true) : ∃ bs k, v = .ref q ∧ o = some bs ∧ ob = W.listOf (bl bs).toArray k := by
  cases o with
  | none => exact absurd (by rw [show v = .none from h]; rfl) n
  | some x => obtain ⟨e, k, e2⟩ := (show v = .ref q ∧ ∃ k, ob = W.listOf (bl x).toArray k from h); exact ⟨x, k, e, rfl, e2⟩
theorem noN {o : Option Int} {v : Value} (h : ShIs v o) (n : o ≠ none) : isN v = false := by rw [isN_sh h]; cases o with | none => exact absurd rfl n | some _ => rfl
theorem noN2 {o : Option (List Bool)} {v : Value} {q : Addr} {ob : Obj} (h : OctV o v q ob) (n : o ≠ none) : isN v = false := by rw [isN_oct h]; cases o with | none => exact absurd rfl n | some _ => rfl
theorem in_found {D : Addr} {k : Nat} {v0 v1 v2 v3 v4 v5 v6 v7 v8 : Value} {o0 o1 o2 o6 o7 : Option Int} {o3 o4 o5 o8 : Option (List Bool)} {q3 q4 q5 q8 : Addr} {ob3 ob4 ob5 ob8 : Obj}
    (N : News h₀ L s.heap news) (hm : (D, W.listOf #[v0, v1, v2, v3, v4, v5, v6, v7, v8] k) ∈ news) (hu : A.in1.units < cLine) (s0 : ShIs v0 o0) (s1 : ShIs v1 o1) (s2 : ShIs v2 o2) (s6 : ShIs v6 o6) (s7 : ShIs v7 o7) (s3 : OctV o3 v3 q3 ob3) (m3 : (q3, ob3) ∈ news) (s4 : OctV o4 v4 q4 ob4) (m4 : (q4, ob4) ∈ news) (s5 : OctV o5 v5 q5 ob5) (m5 : (q5, ob5) ∈ news) (s8 : OctV o8 v8 q8 ob8) (m8 : (q8, ob8) ∈ news)
    (h1 : AllSome v0 o0 v1 o1 v2 o2 v6 o6 v7 o7 v3 o3 q3 ob3 v4 o4 q4 ob4 v5 o5 q5 ob5 v8 o8 q8 ob8 → Q (.bool false) s) (h2 : ¬ (o0 ≠ none ∧ o1 ≠ none ∧ o2 ≠ none ∧ o3 ≠ none ∧ o4 ≠ none ∧ o5 ≠ none ∧ o6 ≠ none ∧ o7 ≠ none ∧ o8 ≠ none) → Q (.bool true) s) : wpAny (model prog w) A (compareOp .In .none (.ref D)) Q E s := by
  refine SeqAt.in_listAt isN (News.isList N hm) (fun y hy => ?_) ?_
  · have all : ∀ y ∈ [v0, v1, v2, v3, v4, v5, v6, v7, v8], SeqAt.EqAt A.in1 s y .none (isN y) := List.forall_mem_cons.mpr ⟨eqn_sh s0, List.forall_mem_cons.mpr ⟨eqn_sh s1, List.forall_mem_cons.mpr ⟨eqn_sh s2, List.forall_mem_cons.mpr ⟨eqn_oct N hu s3 m3, List.forall_mem_cons.mpr ⟨eqn_oct N hu s4 m4, List.forall_mem_cons.mpr ⟨eqn_oct N hu s5 m5, List.forall_mem_cons.mpr ⟨eqn_sh s6, List.forall_mem_cons.mpr ⟨eqn_sh s7, List.forall_mem_cons.mpr ⟨eqn_oct N hu s8 m8, List.forall_mem_nil _⟩⟩⟩⟩⟩⟩⟩⟩⟩
    exact all y (List.mem_toArray.mp hy)
  · rw [List.any_toArray]
    cases z : [v0, v1, v2, v3, v4, v5, v6, v7, v8].any isN with
    | false =>
      have z' := List.any_eq_false.mp z
      have n0 := (List.forall_mem_cons.mp z').1
      replace z' := (List.forall_mem_cons.mp z').2
      have n1 := (List.forall_mem_cons.mp z').1
      replace z' := (List.forall_mem_cons.mp z').2
      have n2 := (List.forall_mem_cons.mp z').1
      replace z' := (List.forall_mem_cons.mp z').2
      have n3 := (List.forall_mem_cons.mp z').1
      replace z' := (List.forall_mem_cons.mp z').2
      have n4 := (List.forall_mem_cons.mp z').1
      replace z' := (List.forall_mem_cons.mp z').2
      have n5 := (List.forall_mem_cons.mp z').1
      replace z' := (List.forall_mem_cons.mp z').2
      have n6 := (List.forall_mem_cons.mp z').1
      replace z' := (List.forall_mem_cons.mp z').2
      have n7 := (List.forall_mem_cons.mp z').1
      replace z' := (List.forall_mem_cons.mp z').2
      have n8 := (List.forall_mem_cons.mp z').1
      replace z' := (List.forall_mem_cons.mp z').2
      obtain ⟨x0, t0, rfl, rfl⟩ := sh_some s0 n0
      obtain ⟨x1, t1, rfl, rfl⟩ := sh_some s1 n1
      obtain ⟨x2, t2, rfl, rfl⟩ := sh_some s2 n2
      obtain ⟨x6, t6, rfl, rfl⟩ := sh_some s6 n6
      obtain ⟨x7, t7, rfl, rfl⟩ := sh_some s7 n7
      obtain ⟨x3, t3, rfl, rfl, rfl⟩ := oct_some s3 n3
      obtain ⟨x4, t4, rfl, rfl, rfl⟩ := oct_some s4 n4
      obtain ⟨x5, t5, rfl, rfl, rfl⟩ := oct_some s5 n5
      obtain ⟨x8, t8, rfl, rfl, rfl⟩ := oct_some s8 n8
      exact h1 (.mk _ _ _ _ _ _ _ _ _ _ _ _ _ _ _ _ _ _ _ _ _ _)
    | true =>
      refine h2 fun hn => ?_
      obtain ⟨e0, e1, e2, e3, e4, e5, e6, e7, e8⟩ := hn
      have y : [v0, v1, v2, v3, v4, v5, v6, v7, v8].any isN = false := List.any_eq_false.mpr (List.forall_mem_cons.mpr ⟨Bool.eq_false_iff.mp (noN s0 e0), List.forall_mem_cons.mpr ⟨Bool.eq_false_iff.mp (noN s1 e1), List.forall_mem_cons.mpr ⟨Bool.eq_false_iff.mp (noN s2 e2), List.forall_mem_cons.mpr ⟨Bool.eq_false_iff.mp (noN2 s3 e3), List.forall_mem_cons.mpr ⟨Bool.eq_false_iff.mp (noN2 s4 e4), List.forall_mem_cons.mpr ⟨Bool.eq_false_iff.mp (noN2 s5 e5), List.forall_mem_cons.mpr ⟨Bool.eq_false_iff.mp (noN s6 e6), List.forall_mem_cons.mpr ⟨Bool.eq_false_iff.mp (noN s7 e7), List.forall_mem_cons.mpr ⟨Bool.eq_false_iff.mp (noN2 s8 e8), List.forall_mem_nil _⟩⟩⟩⟩⟩⟩⟩⟩⟩)
      rw [y] at z
      cases z
end
theorem kw_WCf_5 : True := by
  k_with "my compareOp In" => ((fail_if_success k_extra "z38"); ((k_here; k_dflt ((refine in_found (s := ⟨_, _, _, _, _⟩) (by k_asm) (by k_mem) (by show (ktrTop _ _ _ _ _ _ _ _ _ _).in1.units < cLine; ktr_units) (by assumption) (by assumption) (by assumption) (by assumption) (by assumption) (by assumption) (by k_mem) (by assumption) (by k_mem) (by assumption) (by k_mem) (by assumption) (by k_mem) ?_ ?_); rotate_left; (intro hno); rotate_left; (intro hall; cases hall)))))
  trivial
theorem dn_alt {b : Array UInt8} {bs : List Bool} {v : Value} {l : Led} (P : if (dnAll b bs).1.length = 4 ∧ (dnAll b bs).2 = #[] then ∃ d its k, v = .ref d ∧ l = [(d, W.listOf (bys its).toArray k)] ∧ its.map (·.1) = (dnAll b bs).1 else v = .none ∧ l = []) :
    (((dnAll b bs).1.length = 4 ∧ (dnAll b bs).2 = #[]) ∧ ∃ d its k, v = .ref d ∧ l = [(d, W.listOf (bys its).toArray k)] ∧ its.map (·.1) = (dnAll b bs).1) ∨ (¬ ((dnAll b bs).1.length = 4 ∧ (dnAll b bs).2 = #[]) ∧ v = .none ∧ l = []) := by
  split at P
  · next h => exact .inl ⟨h, P⟩
  · next h => exact .inr ⟨h, P⟩
theorem kw_WCf_6 : True := by
  k_with "my call ref" => ((fail_if_success k_extra "z38"); ((k_here; (with_reducible show wpAny _ _ (call (Value.ref 140) _) _ _ _); k_dflt (refine' Cr.use1 (dn_ok _ _ _ _ _ _ _ _ _ _ _ ?p1_137 ?p2_137) ?hm_137 ?B_137 ?F_137 ?X_137 ?N_137 ?T_137 ?hk_137 ?hd_137 ?hu_137 ?_; (case N_137 => k_asm); (case hm_137 => k_mem); (case p1_137 => exact OctF.len4 (by assumption)); (case p2_137 => assumption); (case B_137 => assumption); (case F_137 => k_asm); (case X_137 => assumption); (case T_137 => assumption); (case hk_137 => rfl); (case hd_137 => ktr_room); (case hu_137 => ktr_units)); intro v1 l1 P1 ap1 h' tk' F' N'; (clear ap1); (rcases dn_alt P1 with ⟨hc1, d1, its1, kk1, e1, e2, e3⟩ | ⟨hc1, e1, e2⟩); (all_goals (clear P1; subst e1; subst e2; (simp only [List.cons_append, List.nil_append] at N'))))))
  trivial
structure CfOk (f9 : Array UInt8) (o0 o1 o2 o6 o7 : Option Int) (o3 o4 o5 o8 : Option (List Bool)) : Prop where
  some : o0 ≠ none ∧ o1 ≠ none ∧ o2 ≠ none ∧ o3 ≠ none ∧ o4 ≠ none ∧ o5 ≠ none ∧ o6 ≠ none ∧ o7 ≠ none ∧ o8 ≠ none
  left : ∀ x, o6 = .some x → x ≤ 3
  right : ∀ x, o7 = .some x → x ≤ 3
  names : ∀ bs, o8 = .some bs → (dnAll f9 bs).1.length = 4 ∧ (dnAll f9 bs).2 = #[]
noncomputable def CfRead (f9 : Array UInt8) (o0 o1 o2 o6 o7 : Option Int) (o3 o4 o5 o8 : Option (List Bool)) (v : Value) (l : Led) : Prop :=
  ∃ x0 x1 x2 x6 x7 bs3 bs4 bs5 bs8, o0 = some x0 ∧ o1 = some x1 ∧ o2 = some x2 ∧ o6 = some x6 ∧ o7 = some x7 ∧ o3 = some bs3 ∧ o4 = some bs4 ∧ o5 = some bs5 ∧ o8 = some bs8 ∧
    ∃ (d q3 q4 q5 q8 nm : Addr) (t0 t1 t2 t6 t7 : Tok) (k k3 k4 k5 kn : Nat) (its : List (Array UInt8 × Tok)), v = .ref d ∧
      l = [(d, W.listOf #[.int x0 t0, .int x1 t1, .int x2 t2, .ref q3, .ref q4, .ref q5, .int x6 t6, .int x7 t7, .ref q8, .ref nm] k), (q3, W.listOf (bl bs3).toArray k3), (q4, W.listOf (bl bs4).toArray k4), (q5, W.listOf (bl bs5).toArray k5), (nm, W.listOf (bys its).toArray kn)] ∧ its.map (·.1) = (dnAll f9 bs8).1
noncomputable def EndW (g : Heap) (L : Addr) (small : Led) (P : Value → Led → Prop) (Q : Flow → Shared → Prop) (gs : Array GenState) (dr : Drawn) (os : OsState) : Prop :=
  ∀ fl all l h' tk' m', Fr g L h' m' → News g L h' all → (∀ q ∈ l ++ small, q ∈ all) → (∀ q ∈ l, ∀ r ∈ small, r.1 ≠ q.1) → P (fv fl) l → Q fl ⟨h', gs, dr, tk', os⟩
theorem kw_WCf_7 : True := by
  k_with "my hq" => ((fail_if_success k_extra "z38"); ((try ((rename EndW _ _ _ _ _ _ _ _ => hQ); unfold EndW at hQ))))
  trivial
set_option maxHeartbeats 8000000 in
theorem cf_ok (w : World) (p : Program) (loose : List Str) (mean : ExcName → Option Value) (mg mb : Str → Option Value) (b : Array UInt8) (t : Tok) (f0 f1 f2 f3 f4 f5 f6 f7 f8 f9 : Array UInt8) (o0 o1 o2 o6 o7 : Option Int) (o3 o4 o5 o8 : Option (List Bool)) (C : Cuts b 59 [f0, f1, f2, f3, f4, f5, f6, f7, f8, f9])
    (n0 : NumF f0 o0) (n1 : NumF f1 o1) (n2 : NumF f2 o2) (n3 : OctF 4 f3 o3) (n4 : OctF 1 f4 o4) (n5 : OctF 4 f5 o5) (n6 : NumF f6 o6) (n7 : NumF f7 o7) (n8 : OctF 4 f8 o8) (n9 : f9.size ≤ 64) :
    Cr w p loose mean mg mb 10 145 [.bytes b t] [] (fun v l => (¬ CfOk f9 o0 o1 o2 o6 o7 o3 o4 o5 o8 ∧ v = .none ∧ l = []) ∨ (CfOk f9 o0 o1 o2 o6 o7 o3 o4 o5 o8 ∧ CfRead f9 o0 o1 o2 o6 o7 o3 o4 o5 o8 v l)) := _root_.id <| by
  k_dflt (refine' Cr.of_body (binds := [(("octets" : Str), .bytes b t)]) ?k6 ?k7 ?k9 ?kB ?c2 ?c3 ?c4 ?c5 ?_; (case k6 => k_is); (case k7 => k_is); (case k9 => exact rfl); (case kB => exact locs rfl); (case c2 => exact rfl); (case c3 => exact rfl); (case c4 => exact rfl); (case c5 => decide))
  intro dp un gd outer A₀ base g L h tk gs dr os Q B X Tp F N lL hd hu hQ
  revert C n0 n1 n2 n3 n4 n5 n6 n7 n8 n9 B X Tp F N lL hd hu hQ
  revert w p loose mean mg mb b t f0 f1 f2 f3 f4 f5 f6 f7 f8 f9 o0 o1 o2 o6 o7 o3 o4 o5 o8 dp un gd outer A₀ base g L h tk gs dr os Q
  k_extra "my d14"; intros w p loose mean mg mb b t f0 f1 f2 f3 f4 f5; k_extra "my of"
  k_extra "my d14"; intros f6 f7 f8 f9 o0 o1 o2 o6 o7 o3 o4 o5 o8 dp; k_extra "my of"
  k_extra "my d8"; intros un gd outer A₀ base g L h; k_extra "my of"
  k_extra "my d5"; intros tk gs dr os Q; k_extra "my of"
  intros C n0 n1 n2 n3 n4 n5 n6 n7 n8 n9 B X Tp F N lL hd hu hQ
  replace hQ : EndW g L [] (fun v l => (¬ CfOk f9 o0 o1 o2 o6 o7 o3 o4 o5 o8 ∧ v = .none ∧ l = []) ∨ (CfOk f9 o0 o1 o2 o6 o7 o3 o4 o5 o8 ∧ CfRead f9 o0 o1 o2 o6 o7 o3 o4 o5 o8 v l)) Q gs dr os := hQ
  haveI mk : Mark := Mark.mk
  try k_lt lL
  k_extra "my kclose"
  k_extra "my ks2"
  · k_extra "my hq"; refine' hQ (.ret _) _ [(_, W.listOf #[_, _, _, _, _, _, _, _, _, _] _), (_, W.listOf (bl _).toArray _), (_, W.listOf (bl _).toArray _), (_, W.listOf (bl _).toArray _), (_, W.listOf (bys _).toArray _)] _ _ _ ?ff ?nn ?sub ?ap (Or.inr ⟨⟨?so, ?le, ?ri, ?na⟩, _, _, _, _, _, _, _, _, _, rfl, rfl, rfl, rfl, rfl, rfl, rfl, rfl, rfl, _, _, _, _, _, _, _, _, _, _, _, _, _, _, _, _, _, rfl, rfl, ?it⟩)
    case it => assumption
    case ff => assumption
    case nn => assumption
    case sub => (try simp only [List.cons_append, List.nil_append]); kcf_all
    case ap => exact fun _ _ => List.forall_mem_nil _
    case so => exact ⟨Option.some_ne_none _, Option.some_ne_none _, Option.some_ne_none _, Option.some_ne_none _, Option.some_ne_none _, Option.some_ne_none _, Option.some_ne_none _, Option.some_ne_none _, Option.some_ne_none _⟩
    case le => intro x e; cases e; assumption
    case ri => intro x e; cases e; assumption
    case na => intro x e; cases e; assumption
  · k_extra "my hq"; refine' hQ (.ret _) _ [] _ _ _ ?ff ?nn ?sub ?ap (Or.inl ⟨fun c => absurd (c.names _ rfl) (by assumption), rfl, rfl⟩)
    case ff => assumption
    case nn => assumption
    case sub => (try simp only [List.cons_append, List.nil_append]); kcf_all
    case ap => exact List.forall_mem_nil _
  · k_extra "my hq"; refine' hQ (.ret _) _ [] _ _ _ ?ff ?nn ?sub ?ap (Or.inl ⟨fun c => absurd (c.right _ rfl) (by assumption), rfl, rfl⟩)
    case ff => assumption
    case nn => assumption
    case sub => (try simp only [List.cons_append, List.nil_append]); kcf_all
    case ap => exact List.forall_mem_nil _
  · k_extra "my hq"; refine' hQ (.ret _) _ [] _ _ _ ?ff ?nn ?sub ?ap (Or.inl ⟨fun c => absurd (c.left _ rfl) (by assumption), rfl, rfl⟩)
    case ff => assumption
    case nn => assumption
    case sub => (try simp only [List.cons_append, List.nil_append]); kcf_all
    case ap => exact List.forall_mem_nil _
  · k_extra "my hq"; refine' hQ (.ret _) _ [] _ _ _ ?ff ?nn ?sub ?ap (Or.inl ⟨fun c => absurd c.some (by assumption), rfl, rfl⟩)
    case ff => assumption
    case nn => assumption
    case sub => (try simp only [List.cons_append, List.nil_append]); kcf_all
    case ap => exact List.forall_mem_nil _
end
section
local macro_rules | `(tactic| k_lt $h:ident) => `(tactic| clear $h)
noncomputable def NoneP (v : Value) (l : Led) : Prop := v = .none ∧ l = []
theorem kw_WRc0_0 : True := by
  k_with "z38" => skip
  k_with "my kfold" => ((fail_if_success k_extra "z39"); skip)
  k_with "my kf" => ((fail_if_success k_extra "z39"); (k_extra "my kclose"))
  k_with "my call ref" => ((fail_if_success k_extra "z39"); ((k_here; (with_reducible show wpAny _ _ (call (Value.ref 145) _) _ _ _); (rename ∀ _, Cr _ _ _ _ _ _ _ _ _ _ _ => H'); k_dflt (refine' Cr.use (H' _) (List.forall_mem_nil _) ?B_140 ?F_140 ?X_140 ?N_140 ?T_140 ?hk_140 ?hd_140 ?hu_140 ?_; (case N_140 => k_asm); (case B_140 => assumption); (case F_140 => k_asm); (case X_140 => assumption); (case T_140 => assumption); (case hk_140 => rfl); (case hd_140 => ktr_room); (case hu_140 => ktr_units)); intro v1 l1 P1 ap1 h' tk' F' N'; (obtain ⟨e1, e2⟩ := P1); (subst e1); (subst e2); (try simp only [List.nil_append] at N'))))
  trivial
set_option maxHeartbeats 2000000 in
theorem rc_none (w : World) (p : Program) (loose : List Str) (mean : ExcName → Option Value) (mg mb : Str → Option Value) (q : Addr) (o : Obj) (b : Array UInt8) (t : Tok) (H : ∀ t, Cr w p loose mean mg mb 10 145 [.bytes b t] [] (fun v l => v = .none ∧ l = [])) :
    Cr w p loose mean mg mb 14 152 [.ref q, .bytes b t] [(q, o)] (fun v l => v = .none ∧ l = []) := _root_.id <| by
  k_dflt (refine' Cr.of_body (binds := [(("screen" : Str), .ref q), (("octets" : Str), .bytes b t)]) ?k6 ?k7 ?k9 ?kB ?c2 ?c3 ?c4 ?c5 ?_; (case k6 => k_is); (case k7 => k_is); (case k9 => exact rfl); (case kB => exact locs rfl); (case c2 => exact rfl); (case c3 => exact rfl); (case c4 => exact rfl); (case c5 => decide))
  intro dp un gd outer A₀ base g L h tk gs dr os Q B X Tp F N lL hd hu hQ
  revert H B X Tp F N lL hd hu hQ
  revert w p loose mean mg mb q o b t dp un gd outer A₀ base g L h tk gs dr os Q
  k_extra "my d14"; intros w p loose mean mg mb q o b t dp un gd outer; k_extra "my of"
  k_extra "my d8"; intros A₀ base g L h tk gs dr; k_extra "my of"
  k_extra "my d2"; intros os Q; k_extra "my of"
  intros H B X Tp F N lL hd hu hQ
  haveI mk : Mark := Mark.mk
  try k_lt lL
  k_extra "my kclose"
  k_extra "my ks2"
  refine' hQ _ _ [] _ _ _ ?ff ?nn ?sub ?ap ⟨rfl, rfl⟩
  case ff => assumption
  case nn => assumption
  case sub => (try simp only [List.cons_append, List.nil_append]); kcf_all
  case ap => exact List.forall_mem_nil _
end
section
inductive UpdL (l : Led) (d : Addr) : Led → (Led → Led) → Prop
  | here : UpdL l d l (fun l' => l')
  | tail {p : Addr × Obj} {r : Led} {g : Led → Led} : p.1 ≠ d → UpdL l d r g → UpdL l d (p :: r) (fun l' => p :: g l')
  | left {q r : Led} {g : Led → Led} : (∀ p ∈ r, p.1 ≠ d) → UpdL l d q g → UpdL l d (q ++ r) (fun l' => g l' ++ r)
  | right {q r : Led} {g : Led → Led} : (∀ p ∈ q, p.1 ≠ d) → UpdL l d r g → UpdL l d (q ++ r) (fun l' => q ++ g l')
theorem all_app {P : Addr × Obj → Prop} {a b : Led} (h : ∀ p ∈ a, P p) (k : ∀ p ∈ b, P p) : ∀ p ∈ a ++ b, P p := fun p hp => (List.mem_append.mp hp).elim (h p) (k p)
theorem UpdF.appL {d : Addr} {o : Obj} {q r : Led} {g : Obj → Led} (h : ∀ p ∈ r, p.1 ≠ d) (V : UpdF d o q g) : UpdF d o (q ++ r) (fun o' => g o' ++ r) := by
  induction V with
  | head k => exact .head (all_app k h)
  | tail k _ ih => exact .tail k ih
theorem UpdF.appR {d : Addr} {o : Obj} {r : Led} {g : Obj → Led} (V : UpdF d o r g) : ∀ {q : Led}, (∀ p ∈ q, p.1 ≠ d) → UpdF d o (q ++ r) (fun o' => q ++ g o')
  | [], _ => V
  | _ :: _, h => .tail (h _ (.head _)) (UpdF.appR V fun p hp => h p (.tail _ hp))
theorem UpdL.updF {l : Led} {d : Addr} {o : Obj} {news : Led} {g : Led → Led} {g0 : Obj → Led} (U : UpdL l d news g) (V : UpdF d o l g0) : UpdF d o news (fun o' => g (g0 o')) := by
  induction U with
  | here => exact V
  | tail h _ ih => exact .tail h ih
  | left h _ ih => exact UpdF.appL h ih
  | right h _ ih => exact UpdF.appR ih h
theorem Upd.appL {d : Addr} {o o' : Obj} {q q' r : Led} (h : ∀ p ∈ r, p.1 ≠ d) (V : Upd d o o' q q') : Upd d o o' (q ++ r) (q' ++ r) := by
  induction V with
  | head k => exact .head (all_app k h)
  | tail k _ ih => exact .tail k ih
theorem Upd.appR {d : Addr} {o o' : Obj} {r r' : Led} (V : Upd d o o' r r') : ∀ {q : Led}, (∀ p ∈ q, p.1 ≠ d) → Upd d o o' (q ++ r) (q ++ r')
  | [], _ => V
  | _ :: _, h => .tail (h _ (.head _)) (Upd.appR V fun p hp => h p (.tail _ hp))
theorem UpdL.upd {l l' : Led} {d : Addr} {o o' : Obj} {news : Led} {g : Led → Led} (U : UpdL l d news g) (V : Upd d o o' l l') : Upd d o o' news (g l') := by
  induction U with
  | here => exact V
  | tail h _ ih => exact .tail h ih
  | left h _ ih => exact Upd.appL h ih
  | right h _ ih => exact Upd.appR ih h
theorem UpdL.mem {l : Led} {d : Addr} {news : Led} {g : Led → Led} (U : UpdL l d news g) : ∀ p ∈ l, p ∈ news := by
  induction U with
  | here => exact fun _ h => h
  | tail _ _ ih => exact fun p h => .tail _ (ih p h)
  | left _ _ ih => exact fun p h => List.mem_append_left _ (ih p h)
  | right _ _ ih => exact fun p h => List.mem_append_right _ (ih p h)
theorem UpdL.mem' {l l1 : Led} {d : Addr} {news : Led} {g : Led → Led} (U : UpdL l d news g) : ∀ p ∈ l1, p ∈ g l1 := by
  induction U with
  | here => exact fun _ h => h
  | tail _ _ ih => exact fun p h => .tail _ (ih p h)
  | left _ _ ih => exact fun p h => List.mem_append_left _ (ih p h)
  | right _ _ ih => exact fun p h => List.mem_append_right _ (ih p h)
theorem UpdL.sub {l l1 l2 : Led} {d : Addr} {news : Led} {g : Led → Led} (U : UpdL l d news g) : ∀ p ∈ g l2, p ∈ g l1 ∨ p ∈ l2 := by
  induction U with
  | here => exact fun _ h => .inr h
  | tail _ _ ih => exact fun p h => (List.mem_cons.mp h).elim (fun e => .inl (e ▸ .head _)) fun h => (ih p h).imp (.tail _) id
  | left _ _ ih => exact fun p h => (List.mem_append.mp h).elim (fun h => (ih p h).imp (List.mem_append_left _) id) fun h => .inl (List.mem_append_right _ h)
  | right _ _ ih => exact fun p h => (List.mem_append.mp h).elim (fun h => .inl (List.mem_append_left _ h)) fun h => (ih p h).imp (List.mem_append_right _) id
theorem upd_still {d : Addr} {o o' : Obj} {l l' : Led} (V : Upd d o o' l l') {p : Addr × Obj} (hp : p ∈ l) (hn : p.1 ≠ d) : p ∈ l' := by
  induction V with
  | head _ => exact (List.mem_cons.mp hp).elim (fun e => absurd (congrArg Prod.fst e) hn) (.tail _)
  | tail _ _ ih => exact (List.mem_cons.mp hp).elim (fun e => e ▸ .head _) (fun h => .tail _ (ih h))
theorem UpdL.news {l l1 l2 : Led} {d : Addr} {news : Led} {g : Led → Led} {h₀ h : Heap} {L : Addr} (U : UpdL l d news g) (N : News h₀ L h (g l1)) (k : ∀ p ∈ l2, p ∈ g l1) : News h₀ L h (g l2) := fun p hp => (U.sub (l1 := l1) p hp).elim (N p) fun h => N p (k p h)
noncomputable abbrev SA.wPn (A : SA) (D : Addr) : SA := { A with pn := D }
noncomputable abbrev SV.wFl (σ : SV) (x : Int) : SV := { σ with fl := x }
noncomputable abbrev SV.wRow (σ : SV) (x : Int) : SV := { σ with row := x }
noncomputable abbrev SV.wCol (σ : SV) (x : Int) : SV := { σ with col := x }
noncomputable abbrev SV.wWt (σ : SV) (x : Bool) : SV := { σ with wt := x }
noncomputable abbrev SV.wOg (σ : SV) (x : Bool) : SV := { σ with og := x }
noncomputable abbrev SV.wGd (σ : SV) (x : Bool) : SV := { σ with gd := x }
noncomputable abbrev SV.wMd (σ : SV) (x : Bool) : SV := { σ with md := x }
noncomputable abbrev SV.wLf (σ : SV) (x : Int) : SV := { σ with lf := x }
noncomputable abbrev SV.wRt (σ : SV) (x : Int) : SV := { σ with rt := x }
noncomputable abbrev SV.wSh (σ : SV) (x : Option Int) : SV := { σ with sh := x }
noncomputable abbrev SV.wB0 (σ : SV) (x : Array UInt8) : SV := { σ with b0 := x }
noncomputable abbrev SV.wB1 (σ : SV) (x : Array UInt8) : SV := { σ with b1 := x }
noncomputable abbrev SV.wB2 (σ : SV) (x : Array UInt8) : SV := { σ with b2 := x }
noncomputable abbrev SV.wB3 (σ : SV) (x : Array UInt8) : SV := { σ with b3 := x }
noncomputable def scrD (w : World) (A : SA) (T : ST) (r c : Int) (σ : SV) : Led := scrL w A T r c σ
section
variable {w : World} {A : SA} {T : ST} {r c : Int} {σ : SV}
theorem scr_m_s : (A.s, instObj 1271 A.sd) ∈ scrD w A T r c σ := List.Mem.head _
theorem scr_m_sd : (A.sd, scO w A T r c) ∈ scrD w A T r c σ := List.Mem.tail _ (List.Mem.head _)
theorem scr_m_cu : (A.cu, instObj 441 A.cud) ∈ scrD w A T r c σ := List.Mem.tail _ (List.Mem.tail _ (List.Mem.head _))
theorem scr_m_cud : (A.cud, cuO w A T σ) ∈ scrD w A T r c σ := List.Mem.tail _ (List.Mem.tail _ (List.Mem.tail _ (List.Mem.head _)))
theorem scr_m_tg : (A.tg, instObj 673 A.td) ∈ scrD w A T r c σ := List.Mem.tail _ (List.Mem.tail _ (List.Mem.tail _ (List.Mem.tail _ (List.Mem.head _))))
theorem scr_m_td : (A.td, tdO w A T c) ∈ scrD w A T r c σ := List.Mem.tail _ (List.Mem.tail _ (List.Mem.tail _ (List.Mem.tail _ (List.Mem.tail _ (List.Mem.head _)))))
theorem scr_m_st : (A.st, T.ost) ∈ scrD w A T r c σ := List.Mem.tail _ (List.Mem.tail _ (List.Mem.tail _ (List.Mem.tail _ (List.Mem.tail _ (List.Mem.tail _ (List.Mem.head _))))))
theorem scr_m_ch : (A.ch, instObj 392 A.chd) ∈ scrD w A T r c σ := List.Mem.tail _ (List.Mem.tail _ (List.Mem.tail _ (List.Mem.tail _ (List.Mem.tail _ (List.Mem.tail _ (List.Mem.tail _ (List.Mem.head _)))))))
theorem scr_m_chd : (A.chd, chO w A T σ) ∈ scrD w A T r c σ := List.Mem.tail _ (List.Mem.tail _ (List.Mem.tail _ (List.Mem.tail _ (List.Mem.tail _ (List.Mem.tail _ (List.Mem.tail _ (List.Mem.tail _ (List.Mem.head _))))))))
theorem scr_m_nm : (A.nm, nmO T σ) ∈ scrD w A T r c σ := List.Mem.tail _ (List.Mem.tail _ (List.Mem.tail _ (List.Mem.tail _ (List.Mem.tail _ (List.Mem.tail _ (List.Mem.tail _ (List.Mem.tail _ (List.Mem.tail _ (List.Mem.head _)))))))))
theorem scr_m_mo : (A.mo, instObj 198 A.md) ∈ scrD w A T r c σ := List.Mem.tail _ (List.Mem.tail _ (List.Mem.tail _ (List.Mem.tail _ (List.Mem.tail _ (List.Mem.tail _ (List.Mem.tail _ (List.Mem.tail _ (List.Mem.tail _ (List.Mem.tail _ (List.Mem.head _))))))))))
theorem scr_m_md : (A.md, moO w A T) ∈ scrD w A T r c σ := List.Mem.tail _ (List.Mem.tail _ (List.Mem.tail _ (List.Mem.tail _ (List.Mem.tail _ (List.Mem.tail _ (List.Mem.tail _ (List.Mem.tail _ (List.Mem.tail _ (List.Mem.tail _ (List.Mem.tail _ (List.Mem.head _)))))))))))
theorem scr_m_ss : (A.ss, T.oss) ∈ scrD w A T r c σ := List.Mem.tail _ (List.Mem.tail _ (List.Mem.tail _ (List.Mem.tail _ (List.Mem.tail _ (List.Mem.tail _ (List.Mem.tail _ (List.Mem.tail _ (List.Mem.tail _ (List.Mem.tail _ (List.Mem.tail _ (List.Mem.tail _ (List.Mem.head _))))))))))))
theorem scr_m_pn : (A.pn, pnO T σ) ∈ scrD w A T r c σ := List.Mem.tail _ (List.Mem.tail _ (List.Mem.tail _ (List.Mem.tail _ (List.Mem.tail _ (List.Mem.tail _ (List.Mem.tail _ (List.Mem.tail _ (List.Mem.tail _ (List.Mem.tail _ (List.Mem.tail _ (List.Mem.tail _ (List.Mem.tail _ (List.Mem.head _)))))))))))))
theorem upd_cud (O : ScrOK w A T c σ) (o' : Obj) : Upd A.cud (cuO w A T σ) o' (scrD w A T r c σ) [(A.s, instObj 1271 A.sd), (A.sd, scO w A T r c), (A.cu, instObj 441 A.cud), (A.cud, o'), (A.tg, instObj 673 A.td), (A.td, tdO w A T c), (A.st, T.ost), (A.ch, instObj 392 A.chd), (A.chd, chO w A T σ), (A.nm, nmO T σ), (A.mo, instObj 198 A.md), (A.md, moO w A T), (A.ss, T.oss), (A.pn, pnO T σ)] := by
  obtain ⟨_, _, _, o1, o2, o3, o4, o5, o6, o7, o8, o9, o10, o11, o12, o13⟩ := O
  have d3 := Nat.lt_trans o4 o5
  have d2 := Nat.lt_trans o3 d3
  have d1 := Nat.lt_trans o2 d2
  have d0 := Nat.lt_trans o1 d1
  have u7 := Nat.lt_trans o6 o7
  have u8 := Nat.lt_trans u7 o8
  have u9 := Nat.lt_trans u8 o9
  have u10 := Nat.lt_trans u9 o10
  have u11 := Nat.lt_trans u10 o11
  have u12 := Nat.lt_trans u11 o12
  have u13 := Nat.lt_trans u12 o13
  unfold scrD
  repeat (first | (refine Upd.head ?_) | (refine Upd.tail (by k_ne) ?_))
  repeat' (first | exact List.forall_mem_nil _ | (refine List.forall_mem_cons.mpr ⟨?_, ?_⟩))
  all_goals k_ne
theorem upd_chd (O : ScrOK w A T c σ) (o' : Obj) : Upd A.chd (chO w A T σ) o' (scrD w A T r c σ) [(A.s, instObj 1271 A.sd), (A.sd, scO w A T r c), (A.cu, instObj 441 A.cud), (A.cud, cuO w A T σ), (A.tg, instObj 673 A.td), (A.td, tdO w A T c), (A.st, T.ost), (A.ch, instObj 392 A.chd), (A.chd, o'), (A.nm, nmO T σ), (A.mo, instObj 198 A.md), (A.md, moO w A T), (A.ss, T.oss), (A.pn, pnO T σ)] := by
  obtain ⟨_, _, _, o1, o2, o3, o4, o5, o6, o7, o8, o9, o10, o11, o12, o13⟩ := O
  have d8 := Nat.lt_trans o9 o10
  have d7 := Nat.lt_trans o8 d8
  have d6 := Nat.lt_trans o7 d7
  have d5 := Nat.lt_trans o6 d6
  have d4 := Nat.lt_trans o5 d5
  have d3 := Nat.lt_trans o4 d4
  have d2 := Nat.lt_trans o3 d3
  have d1 := Nat.lt_trans o2 d2
  have d0 := Nat.lt_trans o1 d1
  have u12 := Nat.lt_trans o11 o12
  have u13 := Nat.lt_trans u12 o13
  unfold scrD
  repeat (first | (refine Upd.head ?_) | (refine Upd.tail (by k_ne) ?_))
  repeat' (first | exact List.forall_mem_nil _ | (refine List.forall_mem_cons.mpr ⟨?_, ?_⟩))
  all_goals k_ne
theorem updF_nm (O : ScrOK w A T c σ) : UpdF A.nm (nmO T σ) (scrD w A T r c σ) (fun o' => [(A.s, instObj 1271 A.sd), (A.sd, scO w A T r c), (A.cu, instObj 441 A.cud), (A.cud, cuO w A T σ), (A.tg, instObj 673 A.td), (A.td, tdO w A T c), (A.st, T.ost), (A.ch, instObj 392 A.chd), (A.chd, chO w A T σ), (A.nm, o'), (A.mo, instObj 198 A.md), (A.md, moO w A T), (A.ss, T.oss), (A.pn, pnO T σ)]) := by
  obtain ⟨_, _, _, o1, o2, o3, o4, o5, o6, o7, o8, o9, o10, o11, o12, o13⟩ := O
  have d10 := Nat.lt_trans o11 o12
  have d9 := Nat.lt_trans o10 d10
  have d8 := Nat.lt_trans o9 d9
  have d7 := Nat.lt_trans o8 d8
  have d6 := Nat.lt_trans o7 d7
  have d5 := Nat.lt_trans o6 d6
  have d4 := Nat.lt_trans o5 d5
  have d3 := Nat.lt_trans o4 d4
  have d2 := Nat.lt_trans o3 d3
  have d1 := Nat.lt_trans o2 d2
  have d0 := Nat.lt_trans o1 d1
  unfold scrD
  repeat (first | (refine UpdF.head ?_) | (refine UpdF.tail (by k_ne) ?_))
  repeat' (first | exact List.forall_mem_nil _ | (refine List.forall_mem_cons.mpr ⟨?_, ?_⟩))
  all_goals k_ne
theorem updF_ss (O : ScrOK w A T c σ) : UpdF A.ss (T.oss) (scrD w A T r c σ) (fun o' => [(A.s, instObj 1271 A.sd), (A.sd, scO w A T r c), (A.cu, instObj 441 A.cud), (A.cud, cuO w A T σ), (A.tg, instObj 673 A.td), (A.td, tdO w A T c), (A.st, T.ost), (A.ch, instObj 392 A.chd), (A.chd, chO w A T σ), (A.nm, nmO T σ), (A.mo, instObj 198 A.md), (A.md, moO w A T), (A.ss, o'), (A.pn, pnO T σ)]) := by
  obtain ⟨_, _, _, o1, o2, o3, o4, o5, o6, o7, o8, o9, o10, o11, o12, o13⟩ := O
  have d0 := Nat.lt_trans o1 o2
  have u4 := Nat.lt_trans o3 o4
  have u5 := Nat.lt_trans u4 o5
  have u6 := Nat.lt_trans u5 o6
  have u7 := Nat.lt_trans u6 o7
  have u8 := Nat.lt_trans u7 o8
  have u9 := Nat.lt_trans u8 o9
  have u10 := Nat.lt_trans u9 o10
  have u11 := Nat.lt_trans u10 o11
  have u12 := Nat.lt_trans u11 o12
  have u13 := Nat.lt_trans u12 o13
  unfold scrD
  repeat (first | (refine UpdF.head ?_) | (refine UpdF.tail (by k_ne) ?_))
  repeat' (first | exact List.forall_mem_nil _ | (refine List.forall_mem_cons.mpr ⟨?_, ?_⟩))
  all_goals k_ne
end
section
variable {w : World} {p : Program} {loose : List Str} {mean : ExcName → Option Value} {mg mb : Str → Option Value} {news : Led} {AA : Around} {h₀ : Heap} {L : Addr} {m : Str → Option Value} {s : Shared} {E : Value → Shared → Prop} {A : SA} {T : ST} {r c : Int} {σ : SV} {g : Led → Led} {Q : Unit → Shared → Prop}
theorem set_row {x : Int} {t : Tok} {a0 : Addr} (O : ScrOK w A T c σ) (e0 : a0 = A.cu) (F : Fr h₀ L s.heap m) (X : (KK w.params).In h₀) (N : News h₀ L s.heap news) (U : UpdL (scrD w A T r c σ) A.cud news g)
    (h : ∀ h' T', Fr h₀ L h' m → News h₀ L h' (g (scrD w A T' r c (σ.wRow x))) → ScrOK w A T' c (σ.wRow x) → Q () { s with heap := h', toks := s.toks + 2 }) :
    wpAny (model pw w) AA (setAttr (.ref a0) "row" (.int x t)) Q E s := by
  subst e0
  refine' set_dict F X N (InstAt.of_news N (U.mem _ scr_m_cu) (U.mem _ scr_m_cud)) rfl ?k6 ?k7 ?k8 ?k9 ?k10 ?k11 (U.upd (show Upd A.cud (cuO w A T σ) (cuO w A { T with c6 := t } (σ.wRow x)) (scrD w A T r c σ) (scrD w A { T with c6 := t } r c (σ.wRow x)) from upd_cud O _)) (Nat.le_of_ble_eq_true rfl) ?_
  case k6 => k_is
  case k7 => k_is
  case k8 => k_is
  case k9 => k_is
  case k10 => rfl
  case k11 => rfl
  intro h' F' N'
  exact h h' { T with c6 := t } F' N' ⟨O.oss, O.ost, O.sh, O.o1, O.o2, O.o3, O.o4, O.o5, O.o6, O.o7, O.o8, O.o9, O.o10, O.o11, O.o12, O.o13⟩
theorem set_col {x : Int} {t : Tok} {a0 : Addr} (O : ScrOK w A T c σ) (e0 : a0 = A.cu) (F : Fr h₀ L s.heap m) (X : (KK w.params).In h₀) (N : News h₀ L s.heap news) (U : UpdL (scrD w A T r c σ) A.cud news g)
    (h : ∀ h' T', Fr h₀ L h' m → News h₀ L h' (g (scrD w A T' r c (σ.wCol x))) → ScrOK w A T' c (σ.wCol x) → Q () { s with heap := h', toks := s.toks + 2 }) :
    wpAny (model pw w) AA (setAttr (.ref a0) "column" (.int x t)) Q E s := by
  subst e0
  refine' set_dict F X N (InstAt.of_news N (U.mem _ scr_m_cu) (U.mem _ scr_m_cud)) rfl ?k6 ?k7 ?k8 ?k9 ?k10 ?k11 (U.upd (show Upd A.cud (cuO w A T σ) (cuO w A { T with c7 := t } (σ.wCol x)) (scrD w A T r c σ) (scrD w A { T with c7 := t } r c (σ.wCol x)) from upd_cud O _)) (Nat.le_of_ble_eq_true rfl) ?_
  case k6 => k_is
  case k7 => k_is
  case k8 => k_is
  case k9 => k_is
  case k10 => rfl
  case k11 => rfl
  intro h' F' N'
  exact h h' { T with c7 := t } F' N' ⟨O.oss, O.ost, O.sh, O.o1, O.o2, O.o3, O.o4, O.o5, O.o6, O.o7, O.o8, O.o9, O.o10, O.o11, O.o12, O.o13⟩
theorem set_wt {b : Bool} {a0 : Addr} (O : ScrOK w A T c σ) (e0 : a0 = A.cu) (F : Fr h₀ L s.heap m) (X : (KK w.params).In h₀) (N : News h₀ L s.heap news) (U : UpdL (scrD w A T r c σ) A.cud news g)
    (h : ∀ h' T', Fr h₀ L h' m → News h₀ L h' (g (scrD w A T' r c (σ.wWt b))) → ScrOK w A T' c (σ.wWt b) → Q () { s with heap := h', toks := s.toks + 2 }) :
    wpAny (model pw w) AA (setAttr (.ref a0) "is_waiting" (.bool b)) Q E s := by
  subst e0
  refine' set_dict F X N (InstAt.of_news N (U.mem _ scr_m_cu) (U.mem _ scr_m_cud)) rfl ?k6 ?k7 ?k8 ?k9 ?k10 ?k11 (U.upd (show Upd A.cud (cuO w A T σ) (cuO w A T (σ.wWt b)) (scrD w A T r c σ) (scrD w A T r c (σ.wWt b)) from upd_cud O _)) (Nat.le_of_ble_eq_true rfl) ?_
  case k6 => k_is
  case k7 => k_is
  case k8 => k_is
  case k9 => k_is
  case k10 => rfl
  case k11 => rfl
  intro h' F' N'
  exact h h' T F' N' ⟨O.oss, O.ost, O.sh, O.o1, O.o2, O.o3, O.o4, O.o5, O.o6, O.o7, O.o8, O.o9, O.o10, O.o11, O.o12, O.o13⟩
theorem set_og {b : Bool} {a0 : Addr} (O : ScrOK w A T c σ) (e0 : a0 = A.cu) (F : Fr h₀ L s.heap m) (X : (KK w.params).In h₀) (N : News h₀ L s.heap news) (U : UpdL (scrD w A T r c σ) A.cud news g)
    (h : ∀ h' T', Fr h₀ L h' m → News h₀ L h' (g (scrD w A T' r c (σ.wOg b))) → ScrOK w A T' c (σ.wOg b) → Q () { s with heap := h', toks := s.toks + 2 }) :
    wpAny (model pw w) AA (setAttr (.ref a0) "is_origin" (.bool b)) Q E s := by
  subst e0
  refine' set_dict F X N (InstAt.of_news N (U.mem _ scr_m_cu) (U.mem _ scr_m_cud)) rfl ?k6 ?k7 ?k8 ?k9 ?k10 ?k11 (U.upd (show Upd A.cud (cuO w A T σ) (cuO w A T (σ.wOg b)) (scrD w A T r c σ) (scrD w A T r c (σ.wOg b)) from upd_cud O _)) (Nat.le_of_ble_eq_true rfl) ?_
  case k6 => k_is
  case k7 => k_is
  case k8 => k_is
  case k9 => k_is
  case k10 => rfl
  case k11 => rfl
  intro h' F' N'
  exact h h' T F' N' ⟨O.oss, O.ost, O.sh, O.o1, O.o2, O.o3, O.o4, O.o5, O.o6, O.o7, O.o8, O.o9, O.o10, O.o11, O.o12, O.o13⟩
theorem set_gd {b : Bool} {a0 : Addr} (O : ScrOK w A T c σ) (e0 : a0 = A.cu) (F : Fr h₀ L s.heap m) (X : (KK w.params).In h₀) (N : News h₀ L s.heap news) (U : UpdL (scrD w A T r c σ) A.cud news g)
    (h : ∀ h' T', Fr h₀ L h' m → News h₀ L h' (g (scrD w A T' r c (σ.wGd b))) → ScrOK w A T' c (σ.wGd b) → Q () { s with heap := h', toks := s.toks + 2 }) :
    wpAny (model pw w) AA (setAttr (.ref a0) "is_guarding" (.bool b)) Q E s := by
  subst e0
  refine' set_dict F X N (InstAt.of_news N (U.mem _ scr_m_cu) (U.mem _ scr_m_cud)) rfl ?k6 ?k7 ?k8 ?k9 ?k10 ?k11 (U.upd (show Upd A.cud (cuO w A T σ) (cuO w A T (σ.wGd b)) (scrD w A T r c σ) (scrD w A T r c (σ.wGd b)) from upd_cud O _)) (Nat.le_of_ble_eq_true rfl) ?_
  case k6 => k_is
  case k7 => k_is
  case k8 => k_is
  case k9 => k_is
  case k10 => rfl
  case k11 => rfl
  intro h' F' N'
  exact h h' T F' N' ⟨O.oss, O.ost, O.sh, O.o1, O.o2, O.o3, O.o4, O.o5, O.o6, O.o7, O.o8, O.o9, O.o10, O.o11, O.o12, O.o13⟩
theorem set_lf {x : Int} {t : Tok} {a0 : Addr} (O : ScrOK w A T c σ) (e0 : a0 = A.ch) (F : Fr h₀ L s.heap m) (X : (KK w.params).In h₀) (N : News h₀ L s.heap news) (U : UpdL (scrD w A T r c σ) A.chd news g)
    (h : ∀ h' T', Fr h₀ L h' m → News h₀ L h' (g (scrD w A T' r c (σ.wLf x))) → ScrOK w A T' c (σ.wLf x) → Q () { s with heap := h', toks := s.toks + 2 }) :
    wpAny (model pw w) AA (setAttr (.ref a0) "left" (.int x t)) Q E s := by
  subst e0
  refine' set_dict F X N (InstAt.of_news N (U.mem _ scr_m_ch) (U.mem _ scr_m_chd)) rfl ?k6 ?k7 ?k8 ?k9 ?k10 ?k11 (U.upd (show Upd A.chd (chO w A T σ) (chO w A { T with e5 := t } (σ.wLf x)) (scrD w A T r c σ) (scrD w A { T with e5 := t } r c (σ.wLf x)) from upd_chd O _)) (Nat.le_of_ble_eq_true rfl) ?_
  case k6 => k_is
  case k7 => k_is
  case k8 => k_is
  case k9 => k_is
  case k10 => rfl
  case k11 => rfl
  intro h' F' N'
  exact h h' { T with e5 := t } F' N' ⟨O.oss, O.ost, O.sh, O.o1, O.o2, O.o3, O.o4, O.o5, O.o6, O.o7, O.o8, O.o9, O.o10, O.o11, O.o12, O.o13⟩
theorem set_rt {x : Int} {t : Tok} {a0 : Addr} (O : ScrOK w A T c σ) (e0 : a0 = A.ch) (F : Fr h₀ L s.heap m) (X : (KK w.params).In h₀) (N : News h₀ L s.heap news) (U : UpdL (scrD w A T r c σ) A.chd news g)
    (h : ∀ h' T', Fr h₀ L h' m → News h₀ L h' (g (scrD w A T' r c (σ.wRt x))) → ScrOK w A T' c (σ.wRt x) → Q () { s with heap := h', toks := s.toks + 2 }) :
    wpAny (model pw w) AA (setAttr (.ref a0) "right" (.int x t)) Q E s := by
  subst e0
  refine' set_dict F X N (InstAt.of_news N (U.mem _ scr_m_ch) (U.mem _ scr_m_chd)) rfl ?k6 ?k7 ?k8 ?k9 ?k10 ?k11 (U.upd (show Upd A.chd (chO w A T σ) (chO w A { T with e6 := t } (σ.wRt x)) (scrD w A T r c σ) (scrD w A { T with e6 := t } r c (σ.wRt x)) from upd_chd O _)) (Nat.le_of_ble_eq_true rfl) ?_
  case k6 => k_is
  case k7 => k_is
  case k8 => k_is
  case k9 => k_is
  case k10 => rfl
  case k11 => rfl
  intro h' F' N'
  exact h h' { T with e6 := t } F' N' ⟨O.oss, O.ost, O.sh, O.o1, O.o2, O.o3, O.o4, O.o5, O.o6, O.o7, O.o8, O.o9, O.o10, O.o11, O.o12, O.o13⟩
theorem set_sh {x : Option Int} {v : Value} (hv : ShIs v x) {a0 : Addr} (O : ScrOK w A T c σ) (e0 : a0 = A.ch) (F : Fr h₀ L s.heap m) (X : (KK w.params).In h₀) (N : News h₀ L s.heap news) (U : UpdL (scrD w A T r c σ) A.chd news g)
    (h : ∀ h' T', Fr h₀ L h' m → News h₀ L h' (g (scrD w A T' r c (σ.wSh x))) → ScrOK w A T' c (σ.wSh x) → Q () { s with heap := h', toks := s.toks + 2 }) :
    wpAny (model pw w) AA (setAttr (.ref a0) "shift" (v)) Q E s := by
  subst e0
  refine' set_dict F X N (InstAt.of_news N (U.mem _ scr_m_ch) (U.mem _ scr_m_chd)) rfl ?k6 ?k7 ?k8 ?k9 ?k10 ?k11 (U.upd (show Upd A.chd (chO w A T σ) (chO w A { T with shv := v } (σ.wSh x)) (scrD w A T r c σ) (scrD w A { T with shv := v } r c (σ.wSh x)) from upd_chd O _)) (Nat.le_of_ble_eq_true rfl) ?_
  case k6 => k_is
  case k7 => k_is
  case k8 => k_is
  case k9 => k_is
  case k10 => rfl
  case k11 => rfl
  intro h' F' N'
  exact h h' { T with shv := v } F' N' ⟨O.oss, O.ost, hv, O.o1, O.o2, O.o3, O.o4, O.o5, O.o6, O.o7, O.o8, O.o9, O.o10, O.o11, O.o12, O.o13⟩
theorem set_pen {D a0 : Addr} {f : Int} {u0 u1 u2 u3 u4 : Tok} (O : ScrOK w A T c σ) (e0 : a0 = A.cu) (F : Fr h₀ L s.heap m) (X : (KK w.params).In h₀) (N : News h₀ L s.heap news) (hD : (D, tupV [.int f u0, .int σ.q1 u1, .int σ.q2 u2, .int σ.q3 u3, .int σ.q4 u4]) ∈ news) (lD : @LT.lt Nat _ A.nm D) (U : UpdL (scrD w A T r c σ) A.cud news g)
    (h : ∀ h' T', Fr h₀ L h' m → News h₀ L h' (g (scrD w (A.wPn D) T' r c (σ.wFl f))) → ScrOK w (A.wPn D) T' c (σ.wFl f) → Q () { s with heap := h', toks := s.toks + 2 }) :
    wpAny (model pw w) AA (setAttr (.ref a0) "pen" (.ref D)) Q E s := by
  subst e0
  have V := U.upd (upd_cud O (cuO w (A.wPn D) T σ))
  have nD : D ≠ A.cud := by
    obtain ⟨_, _, _, o1, o2, o3, o4, o5, o6, o7, o8, o9, o10, o11, o12, o13⟩ := O
    have u7 := Nat.lt_trans o6 o7
    have u8 := Nat.lt_trans u7 o8
    have u9 := Nat.lt_trans u8 o9
    have u10 := Nat.lt_trans u9 o10
    have u11 := Nat.lt_trans u10 o11
    have u12 := Nat.lt_trans u11 o12
    have u14 := Nat.lt_trans u12 lD
    exact Nat.ne_of_gt u14
  have hD' := upd_still V hD nD
  refine' set_dict F X N (InstAt.of_news N (U.mem _ scr_m_cu) (U.mem _ scr_m_cud)) rfl ?k6 ?k7 ?k8 ?k9 ?k10 ?k11 V (Nat.le_of_ble_eq_true rfl) ?_
  case k6 => k_is
  case k7 => k_is
  case k8 => k_is
  case k9 => k_is
  case k10 => rfl
  case k11 => rfl
  intro h' F' N'
  refine h h' { T with p0 := u0, p1 := u1, p2 := u2, p3 := u3, p4 := u4 } F' (U.news N' ?_) ⟨O.oss, O.ost, O.sh, O.o1, O.o2, O.o3, O.o4, O.o5, O.o6, O.o7, O.o8, O.o9, O.o10, O.o11, O.o12, lD⟩
  unfold scrD scrL
  refine List.forall_mem_cons.mpr ⟨U.mem' _ (.head _), ?_⟩
  simp only [List.forall_mem_cons, List.not_mem_nil, false_implies, implies_true, and_true]
  refine ⟨U.mem' _ ?_, U.mem' _ ?_, U.mem' _ ?_, U.mem' _ ?_, U.mem' _ ?_, U.mem' _ ?_, U.mem' _ ?_, U.mem' _ ?_, U.mem' _ ?_, U.mem' _ ?_, U.mem' _ ?_, U.mem' _ ?_, hD'⟩
  all_goals k_mem
end
section
variable {A : SA} {T : ST} {r c : Int} {σ : SV} {g : Led → Led}
theorem mode_F {b : Bool} {t : Tok} {a0 : Addr} {w : World} {p : Program} {loose : List Str} {mean : ExcName → Option Value} {mg mb : Str → Option Value} {news : Led} {dp un : Nat} {gd : Option (List Code)} {cn : Str} {cs : Scope} {a : Addr} {ccd : Value} {cl : List (Str × Addr)} {outer : List Env} {A₀ : Around} {base h₀ : Heap} {L : Addr} {m : Str → Option Value} {s : Shared} {Q E : Value → Shared → Prop} (O : ScrOK w A T c σ) (e0 : a0 = A.mo) (U : UpdL (scrD w A T r c σ) A.ss news g) (B : Below A₀ base outer h₀) (F : Fr h₀ L s.heap m) (X : (KK w.params).In h₀) (N : News h₀ L s.heap news) (Tp : Top p loose mean mg mb h₀) (hk : cs.kind = .function) (hd : dp + 6 < recursionLimit) (hu : un + 100 * 6 < cLine)
    (h : ∀ T', ScrOK w A T' c (σ.wMd b) → ∀ h' tk', Fr h₀ L h' m → News h₀ L h' (g (scrD w A T' r c (σ.wMd b))) → Q ( .none) { s with heap := h', toks := tk' }) : wpAny (model pw w) (ktrTop dp un gd cn cs L a ccd cl outer) (call (.ref 195) [.ref a0, .str (Str.ofString "origin") t, .bool b]) Q E s := by
  subst e0
  exact set_use (U.mem _ scr_m_mo) (U.mem _ scr_m_md) (U.mem _ scr_m_ss) (U.updF (updF_ss O)) O.o1 O.o2 O.oss B F X N Tp hk hd hu fun oss' hs => h { T with oss := oss' } ⟨hs, O.ost, O.sh, O.o1, O.o2, O.o3, O.o4, O.o5, O.o6, O.o7, O.o8, O.o9, O.o10, O.o11, O.o12, O.o13⟩
theorem desig_F_0 {b : Array UInt8} {t tb : Tok} {w : World} {p : Program} {loose : List Str} {mean : ExcName → Option Value} {mg mb : Str → Option Value} {news : Led} {dp un : Nat} {gd : Option (List Code)} {cn : Str} {cs : Scope} {a : Addr} {ccd : Value} {cl : List (Str × Addr)} {outer : List Env} {A₀ : Around} {base h₀ : Heap} {L : Addr} {m : Str → Option Value} {s : Shared} {Q E : Value → Shared → Prop} {a0 : Addr} (hb : b ∈ sixB) (O : ScrOK w A T c σ) (e0 : a0 = A.ch) (U : UpdL (scrD w A T r c σ) A.nm news g) (B : Below A₀ base outer h₀) (F : Fr h₀ L s.heap m) (X : (KK w.params).In h₀) (N : News h₀ L s.heap news) (Tp : Top p loose mean mg mb h₀) (hk : cs.kind = .function) (hd : dp + 4 < recursionLimit) (hu : un + 100 * 4 < cLine)
    (h : ∀ T', ScrOK w A T' c (σ.wB0 b) → ∀ h' tk', Fr h₀ L h' m → News h₀ L h' (g (scrD w A T' r c (σ.wB0 b))) → Q ( .bool true) { s with heap := h', toks := tk' }) : wpAny (model pw w) (ktrTop dp un gd cn cs L a ccd cl outer) (call (.ref 346) [.ref a0, .int 0 t, .bytes b tb]) Q E s := by
  subst e0
  exact desig_use_0 hb O.o11 O.o12 (U.mem _ scr_m_ch) (U.mem _ scr_m_chd) (U.updF (updF_nm O)) B F X N Tp hk hd hu (h { T with n0 := tb } ⟨O.oss, O.ost, O.sh, O.o1, O.o2, O.o3, O.o4, O.o5, O.o6, O.o7, O.o8, O.o9, O.o10, O.o11, O.o12, O.o13⟩)
theorem desig_F_1 {b : Array UInt8} {t tb : Tok} {w : World} {p : Program} {loose : List Str} {mean : ExcName → Option Value} {mg mb : Str → Option Value} {news : Led} {dp un : Nat} {gd : Option (List Code)} {cn : Str} {cs : Scope} {a : Addr} {ccd : Value} {cl : List (Str × Addr)} {outer : List Env} {A₀ : Around} {base h₀ : Heap} {L : Addr} {m : Str → Option Value} {s : Shared} {Q E : Value → Shared → Prop} {a0 : Addr} (hb : b ∈ sixB) (O : ScrOK w A T c σ) (e0 : a0 = A.ch) (U : UpdL (scrD w A T r c σ) A.nm news g) (B : Below A₀ base outer h₀) (F : Fr h₀ L s.heap m) (X : (KK w.params).In h₀) (N : News h₀ L s.heap news) (Tp : Top p loose mean mg mb h₀) (hk : cs.kind = .function) (hd : dp + 4 < recursionLimit) (hu : un + 100 * 4 < cLine)
    (h : ∀ T', ScrOK w A T' c (σ.wB1 b) → ∀ h' tk', Fr h₀ L h' m → News h₀ L h' (g (scrD w A T' r c (σ.wB1 b))) → Q ( .bool true) { s with heap := h', toks := tk' }) : wpAny (model pw w) (ktrTop dp un gd cn cs L a ccd cl outer) (call (.ref 346) [.ref a0, .int 1 t, .bytes b tb]) Q E s := by
  subst e0
  exact desig_use_1 hb O.o11 O.o12 (U.mem _ scr_m_ch) (U.mem _ scr_m_chd) (U.updF (updF_nm O)) B F X N Tp hk hd hu (h { T with n1 := tb } ⟨O.oss, O.ost, O.sh, O.o1, O.o2, O.o3, O.o4, O.o5, O.o6, O.o7, O.o8, O.o9, O.o10, O.o11, O.o12, O.o13⟩)
theorem desig_F_2 {b : Array UInt8} {t tb : Tok} {w : World} {p : Program} {loose : List Str} {mean : ExcName → Option Value} {mg mb : Str → Option Value} {news : Led} {dp un : Nat} {gd : Option (List Code)} {cn : Str} {cs : Scope} {a : Addr} {ccd : Value} {cl : List (Str × Addr)} {outer : List Env} {A₀ : Around} {base h₀ : Heap} {L : Addr} {m : Str → Option Value} {s : Shared} {Q E : Value → Shared → Prop} {a0 : Addr} (hb : b ∈ sixB) (O : ScrOK w A T c σ) (e0 : a0 = A.ch) (U : UpdL (scrD w A T r c σ) A.nm news g) (B : Below A₀ base outer h₀) (F : Fr h₀ L s.heap m) (X : (KK w.params).In h₀) (N : News h₀ L s.heap news) (Tp : Top p loose mean mg mb h₀) (hk : cs.kind = .function) (hd : dp + 4 < recursionLimit) (hu : un + 100 * 4 < cLine)
    (h : ∀ T', ScrOK w A T' c (σ.wB2 b) → ∀ h' tk', Fr h₀ L h' m → News h₀ L h' (g (scrD w A T' r c (σ.wB2 b))) → Q ( .bool true) { s with heap := h', toks := tk' }) : wpAny (model pw w) (ktrTop dp un gd cn cs L a ccd cl outer) (call (.ref 346) [.ref a0, .int 2 t, .bytes b tb]) Q E s := by
  subst e0
  exact desig_use_2 hb O.o11 O.o12 (U.mem _ scr_m_ch) (U.mem _ scr_m_chd) (U.updF (updF_nm O)) B F X N Tp hk hd hu (h { T with n2 := tb } ⟨O.oss, O.ost, O.sh, O.o1, O.o2, O.o3, O.o4, O.o5, O.o6, O.o7, O.o8, O.o9, O.o10, O.o11, O.o12, O.o13⟩)
theorem desig_F_3 {b : Array UInt8} {t tb : Tok} {w : World} {p : Program} {loose : List Str} {mean : ExcName → Option Value} {mg mb : Str → Option Value} {news : Led} {dp un : Nat} {gd : Option (List Code)} {cn : Str} {cs : Scope} {a : Addr} {ccd : Value} {cl : List (Str × Addr)} {outer : List Env} {A₀ : Around} {base h₀ : Heap} {L : Addr} {m : Str → Option Value} {s : Shared} {Q E : Value → Shared → Prop} {a0 : Addr} (hb : b ∈ sixB) (O : ScrOK w A T c σ) (e0 : a0 = A.ch) (U : UpdL (scrD w A T r c σ) A.nm news g) (B : Below A₀ base outer h₀) (F : Fr h₀ L s.heap m) (X : (KK w.params).In h₀) (N : News h₀ L s.heap news) (Tp : Top p loose mean mg mb h₀) (hk : cs.kind = .function) (hd : dp + 4 < recursionLimit) (hu : un + 100 * 4 < cLine)
    (h : ∀ T', ScrOK w A T' c (σ.wB3 b) → ∀ h' tk', Fr h₀ L h' m → News h₀ L h' (g (scrD w A T' r c (σ.wB3 b))) → Q ( .bool true) { s with heap := h', toks := tk' }) : wpAny (model pw w) (ktrTop dp un gd cn cs L a ccd cl outer) (call (.ref 346) [.ref a0, .int 3 t, .bytes b tb]) Q E s := by
  subst e0
  exact desig_use_3 hb O.o11 O.o12 (U.mem _ scr_m_ch) (U.mem _ scr_m_chd) (U.updF (updF_nm O)) B F X N Tp hk hd hu (h { T with n3 := tb } ⟨O.oss, O.ost, O.sh, O.o1, O.o2, O.o3, O.o4, O.o5, O.o6, O.o7, O.o8, O.o9, O.o10, O.o11, O.o12, O.o13⟩)
end
end
section
local macro_rules | `(tactic| k_lt $h:ident) => `(tactic| clear $h)
theorem kw_WCfL_0 : True := by
  k_with "z39" => skip
  k_with "my kfold" => ((fail_if_success k_extra "z41"); skip)
  k_with "my kf" => ((fail_if_success k_extra "z41"); (k_extra "my kclose"))
  k_with "my getMethod bytes" => ((fail_if_success k_extra "z41"); ((k_here; first | (with_reducible refine meth_join ?_) | (with_reducible refine meth_split ?_))))
  k_with "my call builtin:bytes.split" => ((fail_if_success k_extra "z41"); ((k_here; k_dflt ((refine bytes_split3 (s := ⟨_, _, _, _, _⟩) _ (by k_asm) (by k_asm) (by assumption) (by decide) (by decide) (by assumption) ?_); intro D' l' h' tk' hl' F' N' l1; clear l1; (have hlen := (congrArg List.length hl'); rw [List.length_map] at hlen)))))
  k_with "my call builtin:len" => ((fail_if_success k_extra "z41"); ((k_here; (with_reducible show wpAny _ _ (call (Value.builtin _) [Value.ref _]) _ _ _); k_dflt (refine KM.len_K (s := ⟨_, _, _, _, _⟩) (by k_asm) (by k_mem) (bys_size _) (by (have e9 : Int.toNat 9 = 9 := rfl); omega) ?_))))
  k_with "my eval ListComp" => ((fail_if_success k_extra "z41"); ((exfalso; omega)))
  trivial
set_option maxHeartbeats 1000000 in
theorem cf_len (w : World) (p : Program) (loose : List Str) (mean : ExcName → Option Value) (mg mb : Str → Option Value) (b : Array UInt8) (t : Tok) (ps : List (Array UInt8)) (C : Cuts b 59 ps) (hn : ps.length ≤ Int.toNat 9 + 1) (hp : ps.length ≠ 10) :
    Cr w p loose mean mg mb 10 145 [.bytes b t] [] (fun v l => v = .none ∧ l = []) := _root_.id <| by
  k_dflt (refine' Cr.of_body (binds := [(("octets" : Str), .bytes b t)]) ?k6 ?k7 ?k9 ?kB ?c2 ?c3 ?c4 ?c5 ?_; (case k6 => k_is); (case k7 => k_is); (case k9 => exact rfl); (case kB => exact locs rfl); (case c2 => exact rfl); (case c3 => exact rfl); (case c4 => exact rfl); (case c5 => decide))
  intro dp un gd outer A₀ base g L h tk gs dr os Q B X Tp F N lL hd hu hQ
  revert C hn hp B X Tp F N lL hd hu hQ
  revert w p loose mean mg mb b t ps dp un gd outer A₀ base g L h tk gs dr os Q
  k_extra "my d14"; intros w p loose mean mg mb b t ps dp un gd outer A₀; k_extra "my of"
  k_extra "my d8"; intros base g L h tk gs dr os; k_extra "my of"
  k_extra "my d1"; intros Q; k_extra "my of"
  intros C hn hp B X Tp F N lL hd hu hQ
  haveI mk : Mark := Mark.mk
  try k_lt lL
  k_extra "my kclose"
  k_extra "my ks2"
  refine' hQ _ _ [] _ _ _ ?ff ?nn ?sub ?ap ⟨rfl, rfl⟩
  case ff => assumption
  case nn => assumption
  case sub => (try simp only [List.cons_append, List.nil_append]); kcf_all
  case ap => exact List.forall_mem_nil _
end
section
section
variable {prog : Program} {w : World} {A : Around} {E : Value → Shared → Prop} {s : Shared} {env : Env} {test body orelse : PySem.Expr} {pos : Pos} {Q : Value → Shared → Prop}
theorem IfExp_int {b : Bool} {x y : Int} (ht : ∀ Q' : Bool → Shared → Prop, (∀ tk, Q' b { s with toks := tk }) → wpAny (model prog w) A (isTrue test env (eval test env)) Q' E s)
    (h1 : ∀ (tk : Nat) (Q' : Value → Shared → Prop), (∀ t tk', Q' (.int x t) { s with toks := tk' }) → wpAny (model prog w) A (eval body env) Q' E { s with toks := tk })
    (h2 : ∀ (tk : Nat) (Q' : Value → Shared → Prop), (∀ t tk', Q' (.int y t) { s with toks := tk' }) → wpAny (model prog w) A (eval orelse env) Q' E { s with toks := tk })
    (h : ∀ t tk, Q (.int (bif b then x else y) t) { s with toks := tk }) : wpAny (model prog w) A (eval (.IfExp test body orelse pos) env) Q E s := by
  refine IfExp_ (ht _ fun tk => ?_)
  cases b with
  | true => exact h1 tk _ h
  | false => exact h2 tk _ h
theorem IfExp_sh {b : Bool} {x y : Option Int} (ht : ∀ Q' : Bool → Shared → Prop, (∀ tk, Q' b { s with toks := tk }) → wpAny (model prog w) A (isTrue test env (eval test env)) Q' E s)
    (h1 : ∀ (tk : Nat) (Q' : Value → Shared → Prop), (∀ v tk', ShIs v x → Q' v { s with toks := tk' }) → wpAny (model prog w) A (eval body env) Q' E { s with toks := tk })
    (h2 : ∀ (tk : Nat) (Q' : Value → Shared → Prop), (∀ v tk', ShIs v y → Q' v { s with toks := tk' }) → wpAny (model prog w) A (eval orelse env) Q' E { s with toks := tk })
    (h : ∀ v tk, ShIs v (bif b then x else y) → Q v { s with toks := tk }) : wpAny (model prog w) A (eval (.IfExp test body orelse pos) env) Q E s := by
  refine IfExp_ (ht _ fun tk => ?_)
  cases b with
  | true => exact h1 tk _ h
  | false => exact h2 tk _ h
end
section
variable {prog : Program} {w : World} {A : Around} {E : Value → Shared → Prop} {s : Shared} {h₀ : Heap} {L : Addr} {m : Str → Option Value} {news : Led} {Q : Value → Shared → Prop}
theorem tup_from {value slice : PySem.Expr} {t : Addr} {items : Array Value} {a : Int} {u : Tok} (zs : List Value)
    (F : Fr h₀ L s.heap m) (N : News h₀ L s.heap news) (ht : IsTup s.heap t items) (h1 : 1 ≤ a) (ha : a ≤ items.size) (e : items.toList.drop a.toNat = zs)
    (h : ∀ D h', Fr h₀ L h' m → News h₀ L h' ((D, { cls := .type "tuple", data := .seq zs.toArray }) :: news) → (∀ p ∈ news, p.1 < D) → Q (.ref D) { s with heap := h' })
    (hs : subscripted slice false (.ref t) (.ref s.heap.objs.size) = operate [.ref s.heap.objs.size, .ref t] (getItem (.ref t) (.ref s.heap.objs.size)) := by with_unfolding_all rfl)
    (hg : ∀ r, letTemporaryGo value (.ref t) r = pure () := by intro _; with_unfolding_all rfl)
    (hsz : items.size ≤ sizeLine) :
    wpAny (model prog w) A (subscriptTail value slice (.ref t) (.ref s.heap.objs.size)) Q E { s with heap := s.heap.push { cls := .type "slice", data := .fields #[.int a u, .none, .none] } } := by
  obtain ⟨n, rfl⟩ := Int.eq_ofNat_of_zero_le (show 0 ≤ a by omega)
  rw [Int.toNat_natCast] at e
  subst e
  exact slice_tuple_from F N ht (by omega) (by omega) (fun h' F' N' => h _ h' F' N' fun p hp => Nat.lt_succ_of_lt (Heap.lt_size (N p hp).1)) hs hg hsz
end
end
section
theorem kw_WRc_0 : True := by
  k_with "z41" => skip
  k_with "my kfold" => ((fail_if_success k_extra "z43"); skip)
  k_with "my kf" => ((fail_if_success k_extra "z43"); (k_extra "my kclose"))
  k_with "my kmem" => ((fail_if_success k_extra "z43"); (((with_reducible show _ ∈ scrD _ _ _ _ _ _); k_dflt (first | exact scr_m_s | exact scr_m_sd | exact scr_m_cu | exact scr_m_cud | exact scr_m_tg | exact scr_m_td | exact scr_m_st | exact scr_m_ch | exact scr_m_chd | exact scr_m_nm | exact scr_m_mo | exact scr_m_md | exact scr_m_ss | exact scr_m_pn))))
  k_with "my kupdF" => ((fail_if_success k_extra "z43"); (first | with_reducible exact UpdL.here | (refine' UpdL.tail ?a_148 ?b_148; (case a_148 => k_ne); (case b_148 => k_updF))))
  k_with "my setAttr ref" => ((fail_if_success k_extra "z43"); ((k_here; (with_reducible show wpAny _ _ (setAttr (Value.ref _) (PySem.Str.ofString "pen") _) _ _ _); (rename ScrOK _ _ _ _ _ => hO'); k_dflt (refine' set_pen hO' rfl ?F_149 ?X_149 ?N_149 ?D_149 ?l_149 ?U_149 ?_; (case F_149 => k_asm); (case X_149 => assumption); (case N_149 => k_asm); (case U_149 => k_updF); (case D_149 => k_mem); (case l_149 => assumption)); (try clear hO'); intro h' T' F' N' hO'; (try dsimp only at N'))))
  k_with "my setAttr ref" => ((fail_if_success k_extra "z43"); ((k_here; (with_reducible show wpAny _ _ (setAttr (Value.ref _) (PySem.Str.ofString "row") _) _ _ _); (rename ScrOK _ _ _ _ _ => hO'); k_dflt (refine' set_row hO' rfl ?F_150 ?X_150 ?N_150 ?U_150 ?_; (case F_150 => k_asm); (case X_150 => assumption); (case N_150 => k_asm); (case U_150 => k_updF)); (try clear hO'); intro h' T' F' N' hO'; (try dsimp only at N'))))
  k_with "my setAttr ref" => ((fail_if_success k_extra "z43"); ((k_here; (with_reducible show wpAny _ _ (setAttr (Value.ref _) (PySem.Str.ofString "column") _) _ _ _); (rename ScrOK _ _ _ _ _ => hO'); k_dflt (refine' set_col hO' rfl ?F_151 ?X_151 ?N_151 ?U_151 ?_; (case F_151 => k_asm); (case X_151 => assumption); (case N_151 => k_asm); (case U_151 => k_updF)); (try clear hO'); intro h' T' F' N' hO'; (try dsimp only at N'))))
  k_with "my setAttr ref" => ((fail_if_success k_extra "z43"); ((k_here; (with_reducible show wpAny _ _ (setAttr (Value.ref _) (PySem.Str.ofString "is_waiting") _) _ _ _); (rename ScrOK _ _ _ _ _ => hO'); k_dflt (refine' set_wt hO' rfl ?F_152 ?X_152 ?N_152 ?U_152 ?_; (case F_152 => k_asm); (case X_152 => assumption); (case N_152 => k_asm); (case U_152 => k_updF)); (try clear hO'); intro h' T' F' N' hO'; (try dsimp only at N'))))
  k_with "my setAttr ref" => ((fail_if_success k_extra "z43"); ((k_here; (with_reducible show wpAny _ _ (setAttr (Value.ref _) (PySem.Str.ofString "is_origin") _) _ _ _); (rename ScrOK _ _ _ _ _ => hO'); k_dflt (refine' set_og hO' rfl ?F_153 ?X_153 ?N_153 ?U_153 ?_; (case F_153 => k_asm); (case X_153 => assumption); (case N_153 => k_asm); (case U_153 => k_updF)); (try clear hO'); intro h' T' F' N' hO'; (try dsimp only at N'))))
  k_with "my setAttr ref" => ((fail_if_success k_extra "z43"); ((k_here; (with_reducible show wpAny _ _ (setAttr (Value.ref _) (PySem.Str.ofString "is_guarding") _) _ _ _); (rename ScrOK _ _ _ _ _ => hO'); k_dflt (refine' set_gd hO' rfl ?F_154 ?X_154 ?N_154 ?U_154 ?_; (case F_154 => k_asm); (case X_154 => assumption); (case N_154 => k_asm); (case U_154 => k_updF)); (try clear hO'); intro h' T' F' N' hO'; (try dsimp only at N'))))
  k_with "my setAttr ref" => ((fail_if_success k_extra "z43"); ((k_here; (with_reducible show wpAny _ _ (setAttr (Value.ref _) (PySem.Str.ofString "left") _) _ _ _); (rename ScrOK _ _ _ _ _ => hO'); k_dflt (refine' set_lf hO' rfl ?F_155 ?X_155 ?N_155 ?U_155 ?_; (case F_155 => k_asm); (case X_155 => assumption); (case N_155 => k_asm); (case U_155 => k_updF)); (try clear hO'); intro h' T' F' N' hO'; (try dsimp only at N'))))
  k_with "my setAttr ref" => ((fail_if_success k_extra "z43"); ((k_here; (with_reducible show wpAny _ _ (setAttr (Value.ref _) (PySem.Str.ofString "right") _) _ _ _); (rename ScrOK _ _ _ _ _ => hO'); k_dflt (refine' set_rt hO' rfl ?F_156 ?X_156 ?N_156 ?U_156 ?_; (case F_156 => k_asm); (case X_156 => assumption); (case N_156 => k_asm); (case U_156 => k_updF)); (try clear hO'); intro h' T' F' N' hO'; (try dsimp only at N'))))
  k_with "my setAttr ref" => ((fail_if_success k_extra "z43"); ((k_here; (with_reducible show wpAny _ _ (setAttr (Value.ref _) (PySem.Str.ofString "shift") _) _ _ _); (rename ScrOK _ _ _ _ _ => hO'); k_dflt (refine' set_sh ?h_157 hO' rfl ?F_157 ?X_157 ?N_157 ?U_157 ?_; (case F_157 => k_asm); (case X_157 => assumption); (case N_157 => k_asm); (case U_157 => k_updF); (case h_157 => assumption)); (try clear hO'); intro h' T' F' N' hO'; (try dsimp only at N'))))
  k_with "my call ref" => ((fail_if_success k_extra "z43"); ((k_here; (with_reducible show wpAny _ _ (call (Value.ref 195) _) _ _ _); (rename ScrOK _ _ _ _ _ => hO'); k_dflt (refine' mode_F hO' rfl ?U_158 ?B_158 ?F_158 ?X_158 ?N_158 ?T_158 ?hk_158 ?hd_158 ?hu_158 ?_; (case N_158 => k_asm); (case U_158 => k_updF); (case B_158 => assumption); (case F_158 => k_asm); (case X_158 => assumption); (case T_158 => assumption); (case hk_158 => rfl); (case hd_158 => ktr_room); (case hu_158 => ktr_units)); (try clear hO'); intro T' hO' h' tk' F' N'; (try dsimp only at N'))))
  k_with "my call ref" => ((fail_if_success k_extra "z43"); ((k_here; (with_reducible show wpAny _ _ (call (Value.ref 346) _) _ _ _); k_dflt (show wpAny _ _ (call (Value.ref 346) [Value.ref _, Value.int 0 _, Value.bytes _ _]) _ _ _); (rename ScrOK _ _ _ _ _ => hO'); k_dflt (refine' desig_F_0 ?hb_159 hO' rfl ?U_159 ?B_159 ?F_159 ?X_159 ?N_159 ?T_159 ?hk_159 ?hd_159 ?hu_159 ?_; (case N_159 => k_asm); (case hb_159 => with_reducible assumption); (case U_159 => k_updF); (case B_159 => assumption); (case F_159 => k_asm); (case X_159 => assumption); (case T_159 => assumption); (case hk_159 => rfl); (case hd_159 => ktr_room); (case hu_159 => ktr_units)); (try clear hO'); intro T' hO' h' tk' F' N'; (try dsimp only at N'))))
  k_with "my call ref" => ((fail_if_success k_extra "z43"); ((k_here; (with_reducible show wpAny _ _ (call (Value.ref 346) _) _ _ _); k_dflt (show wpAny _ _ (call (Value.ref 346) [Value.ref _, Value.int 1 _, Value.bytes _ _]) _ _ _); (rename ScrOK _ _ _ _ _ => hO'); k_dflt (refine' desig_F_1 ?hb_160 hO' rfl ?U_160 ?B_160 ?F_160 ?X_160 ?N_160 ?T_160 ?hk_160 ?hd_160 ?hu_160 ?_; (case N_160 => k_asm); (case hb_160 => with_reducible assumption); (case U_160 => k_updF); (case B_160 => assumption); (case F_160 => k_asm); (case X_160 => assumption); (case T_160 => assumption); (case hk_160 => rfl); (case hd_160 => ktr_room); (case hu_160 => ktr_units)); (try clear hO'); intro T' hO' h' tk' F' N'; (try dsimp only at N'))))
  k_with "my call ref" => ((fail_if_success k_extra "z43"); ((k_here; (with_reducible show wpAny _ _ (call (Value.ref 346) _) _ _ _); k_dflt (show wpAny _ _ (call (Value.ref 346) [Value.ref _, Value.int 2 _, Value.bytes _ _]) _ _ _); (rename ScrOK _ _ _ _ _ => hO'); k_dflt (refine' desig_F_2 ?hb_161 hO' rfl ?U_161 ?B_161 ?F_161 ?X_161 ?N_161 ?T_161 ?hk_161 ?hd_161 ?hu_161 ?_; (case N_161 => k_asm); (case hb_161 => with_reducible assumption); (case U_161 => k_updF); (case B_161 => assumption); (case F_161 => k_asm); (case X_161 => assumption); (case T_161 => assumption); (case hk_161 => rfl); (case hd_161 => ktr_room); (case hu_161 => ktr_units)); (try clear hO'); intro T' hO' h' tk' F' N'; (try dsimp only at N'))))
  k_with "my call ref" => ((fail_if_success k_extra "z43"); ((k_here; (with_reducible show wpAny _ _ (call (Value.ref 346) _) _ _ _); k_dflt (show wpAny _ _ (call (Value.ref 346) [Value.ref _, Value.int 3 _, Value.bytes _ _]) _ _ _); (rename ScrOK _ _ _ _ _ => hO'); k_dflt (refine' desig_F_3 ?hb_162 hO' rfl ?U_162 ?B_162 ?F_162 ?X_162 ?N_162 ?T_162 ?hk_162 ?hd_162 ?hu_162 ?_; (case N_162 => k_asm); (case hb_162 => with_reducible assumption); (case U_162 => k_updF); (case B_162 => assumption); (case F_162 => k_asm); (case X_162 => assumption); (case T_162 => assumption); (case hk_162 => rfl); (case hd_162 => ktr_room); (case hu_162 => ktr_units)); (try clear hO'); intro T' hO' h' tk' F' N'; (try dsimp only at N'))))
  trivial
theorem lt_scr {w : World} {A : SA} {T : ST} {r c : Int} {σ : SV} {news : Led} {x : Addr} (h : ∀ p ∈ news, p.1 < x) (k : ∀ p ∈ scrD w A T r c σ, p ∈ news) : @LT.lt Nat _ A.cud x ∧ @LT.lt Nat _ A.chd x ∧ @LT.lt Nat _ A.nm x ∧ @LT.lt Nat _ A.ss x ∧ @LT.lt Nat _ A.pn x :=
  ⟨h _ (k _ scr_m_cud), h _ (k _ scr_m_chd), h _ (k _ scr_m_nm), h _ (k _ scr_m_ss), h _ (k _ scr_m_pn)⟩
theorem pn_ne {w : World} {A : SA} {T : ST} {c : Int} {σ : SV} (O : ScrOK w A T c σ) : A.pn ≠ A.cud ∧ A.pn ≠ A.chd ∧ A.pn ≠ A.nm ∧ A.pn ≠ A.ss := by
  obtain ⟨_, _, _, o1, o2, o3, o4, o5, o6, o7, o8, o9, o10, o11, o12, o13⟩ := O
  have d11 := Nat.lt_trans o12 o13
  have d10 := Nat.lt_trans o11 d11
  have d9 := Nat.lt_trans o10 d10
  have d8 := Nat.lt_trans o9 d9
  have d7 := Nat.lt_trans o8 d8
  have d6 := Nat.lt_trans o7 d7
  have d5 := Nat.lt_trans o6 d6
  have d4 := Nat.lt_trans o5 d5
  have d3 := Nat.lt_trans o4 d4
  have d2 := Nat.lt_trans o3 d3
  have d1 := Nat.lt_trans o2 d2
  have d0 := Nat.lt_trans o1 d1
  refine ⟨neN ?_, neN ?_, neN ?_, neN ?_⟩ <;> exact Nat.ne_of_gt (by assumption)
theorem news_dup {h₀ h : Heap} {L : Addr} {p : Addr × Obj} {l : Led} (N : News h₀ L h l) (hp : p ∈ l) : News h₀ L h (p :: l) := List.forall_mem_cons.mpr ⟨N p hp, N⟩
local macro_rules | `(tactic| k_lt $h:ident) => `(tactic| (k_dflt (replace $h := lt_scr $h (by intro p hp; repeat (first | with_reducible exact hp | refine List.mem_cons_of_mem _ ?_))); (obtain ⟨_, _, _, _, _⟩ := $h)))
theorem kw_WRc_1 : True := by
  k_with "my kne" => ((fail_if_success k_extra "z43"); (first | with_reducible assumption | exact Nat.ne_of_gt (by with_reducible assumption) | exact Nat.ne_of_gt (Nat.lt_succ_of_lt (by with_reducible assumption)) | exact Nat.ne_of_lt (by with_reducible assumption)))
  trivial
theorem ne5 {x : Addr} {p1 p2 p3 p4 p5 : Addr × Obj} (h : ∀ q ∈ [p1, p2, p3, p4, p5], x ≠ q.1) : p1.1 ≠ x ∧ p2.1 ≠ x ∧ p3.1 ≠ x ∧ p4.1 ≠ x ∧ p5.1 ≠ x := by
  simp only [List.forall_mem_cons, List.not_mem_nil, false_implies, implies_true, and_true] at h
  exact ⟨h.1.symm, h.2.1.symm, h.2.2.1.symm, h.2.2.2.1.symm, h.2.2.2.2.symm⟩
noncomputable def RcRead (x0 x1 x2 x6 x7 : Int) (a0 a1 a2 a3 g0 p0 p1 p2 p3 : Bool) (bs8 : List Bool) (n0 n1 n2 n3 : Array UInt8) (v : Value) (l : Led) : Prop :=
  ∃ (d q3 q4 q5 q8 nm : Addr) (t0 t1 t2 t6 t7 u0 u1 u2 u3 : Tok) (k k3 k4 k5 kn : Nat), v = .ref d ∧
      l = [(d, W.listOf #[.int x0 t0, .int x1 t1, .int x2 t2, .ref q3, .ref q4, .ref q5, .int x6 t6, .int x7 t7, .ref q8, .ref nm] k), (q3, W.listOf #[.bool a0, .bool a1, .bool a2, .bool a3] k3), (q4, W.listOf #[.bool g0] k4), (q5, W.listOf #[.bool p0, .bool p1, .bool p2, .bool p3] k5), (nm, W.listOf #[.bytes n0 u0, .bytes n1 u1, .bytes n2 u2, .bytes n3 u3] kn)]
theorem kw_WRc_2 : True := by
  k_with "my call ref" => ((fail_if_success k_extra "z43"); ((k_here; (with_reducible show wpAny _ _ (call (Value.ref 145) _) _ _ _); (rename ∀ _, Cr _ _ _ _ _ _ _ _ _ _ _ => H'); k_dflt (refine' Cr.use (H' _) (List.forall_mem_nil _) ?B_164 ?F_164 ?X_164 ?N_164 ?T_164 ?hk_164 ?hd_164 ?hu_164 ?_; (case N_164 => k_asm); (case B_164 => assumption); (case F_164 => k_asm); (case X_164 => assumption); (case T_164 => assumption); (case hk_164 => rfl); (case hd_164 => ktr_room); (case hu_164 => ktr_units)); intro v1 l1 P1 ap1 h' tk' F' N'; k_dflt (have apd := ap1 _ (.tail _ scr_m_cud); have aph := ap1 _ (.tail _ scr_m_chd); have apn := ap1 _ (.tail _ scr_m_nm); have aps := ap1 _ (.tail _ scr_m_ss)); clear ap1; k_dflt (obtain ⟨d', q3', q4', q5', q8', nm', t0', t1', t2', t6', t7', u0', u1', u2', u3', k', k3', k4', k5', kn', e1, e2⟩ := P1); (subst e1); (subst e2); k_dflt ((obtain ⟨apd0, apd1, apd2, apd3, apd4⟩ := ne5 apd); (obtain ⟨aph0, aph1, aph2, aph3, aph4⟩ := ne5 aph); (obtain ⟨apn0, apn1, apn2, apn3, apn4⟩ := ne5 apn); (obtain ⟨aps0, aps1, aps2, aps3, aps4⟩ := ne5 aps)); (clear apd aph apn aps); (simp only [List.cons_append, List.nil_append] at N'))))
  k_with "my subscriptTail Name Constant ref int" => ((fail_if_success k_extra "z43"); ((k_here; k_dflt (refine item_led (s := ⟨_, _, _, _, _⟩) (by k_asm) (by k_mem) (by decide) (by decide) (by rfl) ?_))))
  k_with "my eval IfExp" => ((fail_if_success k_extra "z43"); ((k_here; k_dflt (first
  | ((apply IfExp_int (s := ⟨_, _, _, _, _⟩)); (case ht => (intro Q' hq; (repeat (first | with_reducible exact hq _ | (walk1; try dsimp only))); done)); (case h1 => (intro tk' Q' hq; (repeat (first | with_reducible exact hq _ _ | (walk1; try dsimp only))); done)); (case h2 => (intro tk' Q' hq; (repeat (first | with_reducible exact hq _ _ | (walk1; try dsimp only))); done)); (intro t' tk'))
  | ((apply IfExp_sh (s := ⟨_, _, _, _, _⟩)); (case ht => (intro Q' hq; (repeat (first | with_reducible exact hq _ | (walk1; try dsimp only))); done)); (case h1 => (intro tk' Q' hq; (repeat (first | exact hq _ _ (show ShIs (Value.int _ _) (some _) from ⟨_, rfl⟩) | exact hq _ _ (show ShIs Value.none none from rfl) | exact hq _ _ (by with_reducible assumption) | (walk1; try dsimp only))); done)); (case h2 => (intro tk' Q' hq; (repeat (first | exact hq _ _ (show ShIs (Value.int _ _) (some _) from ⟨_, rfl⟩) | exact hq _ _ (show ShIs Value.none none from rfl) | exact hq _ _ (by with_reducible assumption) | (walk1; try dsimp only))); done)); (intro v' tk' hv'))))))
  k_with "my subscriptTail" => ((fail_if_success k_extra "z43"); ((k_here; (with_reducible show wpAny _ _ (subscriptTail _ (PySem.Expr.Slice _ none none _) (Value.ref _) (Value.ref _)) _ _ _); k_dflt (refine kba_turn (value' := PySem.Expr.Name (PySem.Str.ofString "x") ⟨0, 0, 0, 0⟩) (fun _ => rfl) ?_; refine tup_from (s := ⟨_, _, _, _, _⟩) [_, _, _, _] (by k_asm) (by k_asm) (isTup_new (by k_asm) (by k_mem)) (by decide) (by show (1 : Int) ≤ ((5 : Nat) : Int); decide) rfl ?_ (hg := fun _ => rfl) (hsz := Nat.le_of_ble_eq_true rfl)); intro D' h' F' N' l1; (try k_lt l1))))
  trivial
theorem and_within (x : Int) : 0 ≤ Builtin.bitAnd x 3584 ∧ Builtin.bitAnd x 3584 ≤ 3584 := by
  by_cases hx : 0 ≤ x
  · rw [bitAnd_pp hx (by decide)]
    have := @Nat.and_le_right x.toNat (3584 : Int).toNat
    have e : (3584 : Int).toNat = 3584 := rfl
    rw [e] at this ⊢
    omega
  · rw [bitAnd_np hx (by decide)]
    have := @Nat.and_le_left (3584 : Int).toNat (Builtin.bitNot x).toNat
    have e : (3584 : Int).toNat = 3584 := rfl
    rw [e] at this ⊢
    omega
theorem kind_small (x : Int) (p q : Bool) : (bif p then (bif q then (Builtin.bitAnd x 3584).fdiv (2 ^ Int.toNat 9) else 1) else 0 : Int).natAbs < 2 ^ 64 := by
  have e : (2 : Int) ^ Int.toNat 9 = 512 := by decide
  have h := and_within x
  rw [e, Int.fdiv_eq_ediv_of_nonneg _ (show (0 : Int) ≤ 512 by decide)]
  cases p
  · show (0 : Int).natAbs < 2 ^ 64
    decide
  · cases q
    · show (1 : Int).natAbs < 2 ^ 64
      decide
    · simp only [cond_true]
      omega
theorem kw_WRc_3 : True := by
  k_with "my binaryOp LShift int int" => ((fail_if_success k_extra "z43"); ((k_here; k_dflt (refine lshift_int_small (by decide) (by decide) (kind_small _ _ _) ?_))))
  trivial
theorem isd_cls {K : Type} [DecidableEq K] {prog : Program} {w : World} {knd : KeyKind prog w K} {o : Obj} {kvs : List (K × Value)} (h : o.IsDictOf knd kvs) : o.cls = .type "dict" := by
  obtain ⟨_, _, x, _⟩ := h
  exact x.1
noncomputable def NotIt (p : Addr × Obj) : Prop := p.2.cls ≠ .type "enumerate" ∧ p.2.cls ≠ .type "list_iterator"
theorem scr_notit {w : World} {A : SA} {T : ST} {r c : Int} {σ : SV} (O : ScrOK w A T c σ) : ∀ p ∈ scrD w A T r c σ, NotIt p := by
  have e1 : T.oss.cls = .type "dict" := isd_cls O.oss
  have e2 : T.ost.cls = .type "dict" := isd_cls O.ost
  unfold scrD scrL
  simp only [List.forall_mem_cons, List.not_mem_nil, false_implies, implies_true, and_true, NotIt, e1, e2]
  refine ⟨?_, ?_, ?_, ?_, ?_, ?_, ?_, ?_, ?_, ?_, ?_, ?_, ?_, ?_⟩
  all_goals exact ⟨by k_cls, by k_cls⟩
theorem turn_end {h₀ h' : Heap} {L a1 a2 : Addr} {o1 o2 : Obj} {rest : (Str → Option Value) → Led → Prop} {s₁ : Shared} {tk : Nat} {m' : Str → Option Value} {news' : Led} (F : Fr h₀ L h' m') (N : News h₀ L h' ((a1, o1) :: (a2, o2) :: news')) (h1 : o1.cls = .type "enumerate") (h2 : o2.cls = .type "list_iterator")
    (off : ∀ p ∈ news', NotIt p) (r : rest m' news') : UnrEndW h₀ L s₁ [(a1, o1), (a2, o2)] rest { s₁ with heap := h', toks := tk } :=
  ⟨h', tk, m', news', rfl, F, N, fun p hp q hq e => by
    have n1 := (N _ (.tail _ (.tail _ hp))).1
    rcases List.mem_cons.mp hq with rfl | hq
    · have n2 := (N _ (.head _)).1
      rw [e, n2] at n1
      exact (off p hp).1 ((congrArg Obj.cls (Option.some.inj n1)).symm.trans h1)
    · rw [List.mem_singleton.mp hq] at e
      have n2 := (N _ (.tail _ (.head _))).1
      rw [e, n2] at n1
      exact (off p hp).2 ((congrArg Obj.cls (Option.some.inj n1)).symm.trans h2), r⟩
theorem kw_WRc_4 : True := by
  k_with "my exec For Tuple Call" => ((fail_if_success k_extra "z43"); ((k_here; (rename Fr _ _ _ _ => lF'); (with_unfolding_all refine' For_turns lF' ?_; k_whole))))
  k_with "my call type:enumerate" => ((fail_if_success k_extra "z43"); ((k_here; (rename Fr _ _ _ _ => lF'); (rename News _ _ _ _ => lN'); (with_unfolding_all refine ktu_enum (vs := [_, _, _, _]) (by rfl) lF' lN' (by k_mem) (by rfl) (by rfl) (by rfl) ?_); clear lF' lN'; intro i' l1; (try k_lt l1))))
  trivial
theorem notit_mk {a : Addr} {o : Obj} (h : o.cls ≠ .type "enumerate") (k : o.cls ≠ .type "list_iterator") : NotIt (a, o) := ⟨h, k⟩
noncomputable def rcLow (fl : Int) (a0 a2 a3 : Bool) : Int := Builtin.bitOr (Builtin.bitOr (Builtin.bitOr (Builtin.bitAnd fl (Builtin.bitNot (Builtin.bitOr (Builtin.bitOr 1 8) 32))) (bif a0 then 1 else 0)) (bif a2 then 8 else 0)) (bif a3 then 32 else 0)
noncomputable def rcFl (fl : Int) (a0 a1 a2 a3 : Bool) : Int := Builtin.bitOr (Builtin.bitAnd (rcLow fl a0 a2 a3) (Builtin.bitNot 3584)) ((bif a1 then (bif (Builtin.bitAnd (rcLow fl a0 a2 a3) 3584).fdiv (2 ^ Int.toNat 9) != 0 then (Builtin.bitAnd (rcLow fl a0 a2 a3) 3584).fdiv (2 ^ Int.toNat 9) else 1) else 0) * 2 ^ Int.toNat 9)
noncomputable def rcMid (x r : Int) : Int := if (if r - 1 < x - 1 then r - 1 else x - 1) > 0 then (if r - 1 < x - 1 then r - 1 else x - 1) else 0
theorem kw_WRc_5 : True := by
  k_with "my UnrEndW" => ((fail_if_success k_extra "z43"); ((k_dflt (refine turn_end (by k_asm) (by k_asm) (by assumption) (by assumption) (by (repeat (with_reducible refine List.forall_mem_cons.mpr (And.intro (notit_mk (by k_dflt k_cls) (by k_dflt k_cls)) ?_))); exact scr_notit (by assumption)) ?_; refine ⟨And.intro (by k_mem) trivial, ?_⟩))))
  trivial
noncomputable def rcV (σ : SV) (r c x0 x1 x6 x7 : Int) (a0 a1 a2 a3 g0 p0 p1 p2 p3 : Bool) (n0 n1 n2 n3 : Array UInt8) : SV :=
  (((((((((((((((σ.wFl (rcFl σ.fl a0 a1 a2 a3)).wRow (rcMid x0 r)).wCol (rcMid x1 c)).wWt false).wGd g0).wOg p0).wMd p0).wWt p3).wB0 n0).wB1 n1).wB2 n2).wB3 n3).wLf x6).wRt x7).wSh (bif p1 then some 2 else bif p2 then some 3 else none))
set_option maxHeartbeats 8000000 in
theorem rc_ok (w : World) (p : Program) (loose : List Str) (mean : ExcName → Option Value) (mg mb : Str → Option Value) (A : SA) (T : ST) (r c : Int) (σ : SV) (hS : ScrOK w A T c σ) (b : Array UInt8) (t : Tok) (x0 x1 x2 x6 x7 : Int) (a0 a1 a2 a3 g0 p0 p1 p2 p3 : Bool) (bs8 : List Bool) (n0 n1 n2 n3 : Array UInt8)
    (hn0 : n0 ∈ sixB) (hn1 : n1 ∈ sixB) (hn2 : n2 ∈ sixB) (hn3 : n3 ∈ sixB) (H : ∀ t, Cr w p loose mean mg mb 10 145 [.bytes b t] [] (RcRead x0 x1 x2 x6 x7 a0 a1 a2 a3 g0 p0 p1 p2 p3 bs8 n0 n1 n2 n3)) :
    Cq w p loose mean mg mb 14 152 [.ref A.s, .bytes b t] (scrD w A T r c σ) (fun v l => v = .none ∧ ∃ D T', @LT.lt Nat _ A.pn D ∧ l = (A.pn, pnO T σ) :: scrD w (A.wPn D) T' r c (rcV σ r c x0 x1 x6 x7 a0 a1 a2 a3 g0 p0 p1 p2 p3 n0 n1 n2 n3) ∧ ScrOK w (A.wPn D) T' c (rcV σ r c x0 x1 x6 x7 a0 a1 a2 a3 g0 p0 p1 p2 p3 n0 n1 n2 n3)) := _root_.id <| by
  have hpn := pn_ne hS
  obtain ⟨hpn1, hpn2, hpn3, hpn4⟩ := hpn
  k_dflt (refine' Cq.of_body (binds := [(("screen" : Str), .ref A.s), (("octets" : Str), .bytes b t)]) ?k6 ?k7 ?k9 ?kB ?c2 ?c3 ?c4 ?c5 ?_; (case k6 => k_is); (case k7 => k_is); (case k9 => exact rfl); (case kB => exact locs rfl); (case c2 => exact rfl); (case c3 => exact rfl); (case c4 => exact rfl); (case c5 => decide))
  intro dp un gd outer A₀ base g L h tk gs dr os Q B X Tp F N lL hd hu hQ
  revert hS hn0 hn1 hn2 hn3 H hpn1 hpn2 hpn3 hpn4 B X Tp F N lL hd hu hQ
  revert w p loose mean mg mb A T r c σ b t x0 x1 x2 x6 x7 a0 a1 a2 a3 g0 p0 p1 p2 p3 bs8 n0 n1 n2 n3 dp un gd outer A₀ base g L h tk gs dr os Q
  k_extra "my d14"; intros w p loose mean mg mb A T r c σ b t x0; k_extra "my of"
  k_extra "my d14"; intros x1 x2 x6 x7 a0 a1 a2 a3 g0 p0 p1 p2 p3 bs8; k_extra "my of"
  k_extra "my d14"; intros n0 n1 n2 n3 dp un gd outer A₀ base g L h tk; k_extra "my of"
  k_extra "my d4"; intros gs dr os Q; k_extra "my of"
  intros hS hn0 hn1 hn2 hn3 H hpn1 hpn2 hpn3 hpn4 B X Tp F N lL hd hu hQ
  haveI mk : Mark := Mark.mk
  try k_lt lL
  replace N := news_dup N scr_m_pn
  k_extra "my kclose"
  k_extra "my ks2"
  rename ScrOK _ _ _ _ _ => hO'
  refine' hQ _ _ ((A.pn, pnO T σ) :: scrD w (A.wPn _) _ r c (rcV σ r c x0 x1 x6 x7 a0 a1 a2 a3 g0 p0 p1 p2 p3 n0 n1 n2 n3)) _ _ _ ?ff ?nn ?sub ⟨rfl, _, _, ?lt, rfl, hO'⟩
  case ff => assumption
  case nn => assumption
  case lt => assumption
  case sub =>
    intro p hp
    rcases List.mem_cons.mp hp with rfl | hp
    · repeat (first | with_reducible exact List.mem_cons_self .. | with_reducible refine List.mem_cons_of_mem _ ?_)
    · repeat (with_reducible refine List.mem_cons_of_mem _ ?_)
      exact hp
end
section
theorem kw_WPut_0 : True := by
  k_with "z43" => skip
  k_with "my kfold" => ((fail_if_success k_extra "z44"); skip)
  k_with "my kf" => ((fail_if_success k_extra "z44"); (k_extra "my kclose"))
  k_with "my subscriptTail Name Constant ref int" => ((fail_if_success k_extra "z44"); ((k_here; k_dflt (refine item_led (s := ⟨_, _, _, _, _⟩) (by k_asm) (by k_mem) (by decide) (by decide) (by rfl) ?_))))
  k_with "my eval IfExp" => ((fail_if_success k_extra "z44"); ((k_here; k_dflt (first
  | ((apply IfExp_int (s := ⟨_, _, _, _, _⟩)); (case ht => (intro Q' hq; (repeat (first | with_reducible exact hq _ | (walk1; try dsimp only))); done)); (case h1 => (intro tk' Q' hq; (repeat (first | with_reducible exact hq _ _ | (walk1; try dsimp only))); done)); (case h2 => (intro tk' Q' hq; (repeat (first | with_reducible exact hq _ _ | (walk1; try dsimp only))); done)); (intro t' tk'))
  | ((apply IfExp_sh (s := ⟨_, _, _, _, _⟩)); (case ht => (intro Q' hq; (repeat (first | with_reducible exact hq _ | (walk1; try dsimp only))); done)); (case h1 => (intro tk' Q' hq; (repeat (first | exact hq _ _ (show ShIs (Value.int _ _) (some _) from ⟨_, rfl⟩) | exact hq _ _ (show ShIs Value.none none from rfl) | exact hq _ _ (by with_reducible assumption) | (walk1; try dsimp only))); done)); (case h2 => (intro tk' Q' hq; (repeat (first | exact hq _ _ (show ShIs (Value.int _ _) (some _) from ⟨_, rfl⟩) | exact hq _ _ (show ShIs Value.none none from rfl) | exact hq _ _ (by with_reducible assumption) | (walk1; try dsimp only))); done)); (intro v' tk' hv'))))))
  k_with "my subscriptTail" => ((fail_if_success k_extra "z44"); ((k_here; (with_reducible show wpAny _ _ (subscriptTail _ (PySem.Expr.Slice _ none none _) (Value.ref _) (Value.ref _)) _ _ _); k_dflt (refine kba_turn (value' := PySem.Expr.Name (PySem.Str.ofString "x") ⟨0, 0, 0, 0⟩) (fun _ => rfl) ?_; refine tup_from (s := ⟨_, _, _, _, _⟩) [_, _, _, _] (by k_asm) (by k_asm) (isTup_new (by k_asm) (by k_mem)) (by decide) (by show (1 : Int) ≤ ((5 : Nat) : Int); decide) rfl ?_ (hg := fun _ => rfl) (hsz := Nat.le_of_ble_eq_true rfl)); intro D' h' F' N' l1; (try k_lt l1))))
  trivial
noncomputable abbrev stO (σ : SV) (pn nl : Addr) (shv : Value) (t0 t1 t2 t3 : Tok) (k : Nat) : Obj := W.listOf #[.int σ.row t0, .int σ.col t1, .ref pn, .bool σ.gd, .bool σ.og, .bool σ.wt, .ref nl, .int σ.lf t2, .int σ.rt t3, shv, .bool σ.md] k
noncomputable def putB (f n bit : Int) : Int := f - (f.fdiv bit).fmod 2 * bit + (n.fdiv bit).fmod 2 * bit
noncomputable def putFl (nf ff : Int) : Int := (putB (putB (putB ff nf 1) nf 8) nf 32).fmod 512 + (bif !decide (0 < nf.fdiv 512) then 0 else bif decide (0 < ff.fdiv 512) then ff.fdiv 512 else 1) * 512
noncomputable def putMid (x r : Int) : Int := if r - 1 < x then r - 1 else x
set_option maxHeartbeats 4000000 in
theorem put_ok (w : World) (p : Program) (loose : List Str) (mean : ExcName → Option Value) (mg mb : Str → Option Value) (q1 q2 n1 n2 p1 p2 : Addr) (T1 T2 : ST) (σ1 σ2 : SV) (sh1 sh2 : Value) (t0 t1 t2 t3 u0 u1 u2 u3 tr tc : Tok) (k1 k2 : Nat) (rr cc : Int) (hs1 : ShIs sh1 σ1.sh) :
    Cr w p loose mean mg mb 6 1328 [.ref q1, .ref q2, .int rr tr, .int cc tc] [(q1, stO σ1 p1 n1 sh1 t0 t1 t2 t3 k1), (q2, stO σ2 p2 n2 sh2 u0 u1 u2 u3 k2), (p1, pnO T1 σ1), (p2, pnO T2 σ2)] (fun v l => ∃ (qq pp : Addr) (v0 v1 tf : Tok) (k : Nat), v = .ref qq ∧ l = [(qq, W.listOf #[.int (putMid σ1.row rr) v0, .int (putMid σ1.col cc) v1, .ref pp, .bool σ1.gd, .bool σ1.og, .bool σ1.wt, .ref n1, .int σ1.lf t2, .int σ1.rt t3, sh1, .bool σ1.og] k), (pp, tupV [.int (putFl σ1.fl σ2.fl) tf, .int σ2.q1 T2.p1, .int σ2.q2 T2.p2, .int σ2.q3 T2.p3, .int σ2.q4 T2.p4])]) := _root_.id <| by
  have hhd := handed_of hs1
  k_dflt (refine' Cr.of_body (binds := [(("near" : Str), .ref q1), (("far" : Str), .ref q2), (("rows" : Str), .int rr tr), (("columns" : Str), .int cc tc)]) ?k6 ?k7 ?k9 ?kB ?c2 ?c3 ?c4 ?c5 ?_; (case k6 => k_is); (case k7 => k_is); (case k9 => exact rfl); (case kB => exact locs rfl); (case c2 => exact rfl); (case c3 => exact rfl); (case c4 => exact rfl); (case c5 => decide))
  intro dp un gd outer A₀ base g L h tk gs dr os Q B X Tp F N lL hd hu hQ
  revert hs1 hhd B X Tp F N lL hd hu hQ
  revert w p loose mean mg mb q1 q2 n1 n2 p1 p2 T1 T2 σ1 σ2 sh1 sh2 t0 t1 t2 t3 u0 u1 u2 u3 tr tc k1 k2 rr cc dp un gd outer A₀ base g L h tk gs dr os Q
  k_extra "my d14"; intros w p loose mean mg mb q1 q2 n1 n2 p1 p2 T1 T2; k_extra "my of"
  k_extra "my d14"; intros σ1 σ2 sh1 sh2 t0 t1 t2 t3 u0 u1 u2 u3 tr tc; k_extra "my of"
  k_extra "my d14"; intros k1 k2 rr cc dp un gd outer A₀ base g L h tk; k_extra "my of"
  k_extra "my d4"; intros gs dr os Q; k_extra "my of"
  intros hs1 hhd B X Tp F N lL hd hu hQ
  haveI mk : Mark := Mark.mk
  try k_lt lL
  k_extra "my kclose"
  k_extra "my ks2"
  refine' hQ (.ret _) _ [(_, W.listOf #[_, _, _, _, _, _, _, _, _, _, _] _), (_, tupV [_, _, _, _, _])] _ _ _ ?ff ?nn ?sub ?ap ⟨_, _, _, _, _, _, rfl, rfl⟩
  case ff => assumption
  case nn => assumption
  case sub => (try simp only [List.cons_append, List.nil_append]); kcf_all
  case ap =>
    repeat' (first | exact List.forall_mem_nil _ | (refine List.forall_mem_cons.mpr ⟨?_, ?_⟩))
    all_goals k_ne
end
section
theorem kw_WSpl_0 : True := by
  k_with "z44" => skip
  k_with "my kfold" => ((fail_if_success k_extra "z45"); skip)
  k_with "my kf" => ((fail_if_success k_extra "z45"); (k_extra "my kclose"))
  trivial
open PySem.Builtin.Bytes (joined)
theorem kw_WSpl_1 : True := by
  k_with "my getMethod bytes" => ((fail_if_success k_extra "z45"); ((k_here; first | (with_reducible refine meth_join ?_) | (with_reducible refine meth_split ?_))))
  trivial
section
variable {prog : Program} {w : World} {A : Around} {E : Value → Shared → Prop} {s : Shared} {h₀ : Heap} {L D : Addr} {m : Str → Option Value} {news news' : Led} {its : List (Array UInt8 × Tok)} {n : Nat} {k : Int} {t u : Tok}
theorem item_bys {value slice : PySem.Expr} {Q : Value → Shared → Prop} (N : News h₀ L s.heap news) (hm : (D, W.listOf (bys its).toArray n) ∈ news) (h0 : 0 ≤ k) (h1 : k < 10) (hl : its.length = 10) (hz : ∀ p ∈ its, p.1.size ≤ 60) (h : ∀ f t, (its.map (·.1))[k.toNat]? = some f → f.size ≤ 60 → Q (.bytes f t) s)
    (hs : subscripted slice false (.ref D) (.int k u) = operate [.ref D, .int k u] (getItem (.ref D) (.int k u)) := by with_unfolding_all rfl) : wpAny (model prog w) A (subscriptTail value slice (.ref D) (.int k u)) Q E s := by
  have hlt : k.toNat < its.length := by omega
  refine item_led N hm h0 (by omega) (v := .bytes its[k.toNat].1 its[k.toNat].2) ?_ (h _ _ ?_ (hz _ (List.getElem_mem hlt))) hs
  · show (bys its)[k.toNat]? = _
    unfold bys
    rw [List.getElem?_map, List.getElem?_eq_getElem hlt]
    rfl
  · rw [List.getElem?_map, List.getElem?_eq_getElem hlt]
    rfl
theorem bys_set {f : Array UInt8} (i : Nat) : bys (its.set i (f, u)) = (bys its).set i (.bytes f u) := by unfold bys; rw [List.map_set]
theorem set_bys {f : Array UInt8} {Q : Unit → Shared → Prop} (F : Fr h₀ L s.heap m) (N : News h₀ L s.heap news) (U : Upd D (W.listOf (bys its).toArray n) (W.listOf (bys (its.set k.toNat (f, u))).toArray n) news news') (h0 : 0 ≤ k) (h1 : k < 10) (hl : its.length = 10)
    (h : ∀ h', Fr h₀ L h' m → News h₀ L h' news' → Q () { s with heap := h' }) : wpAny (model prog w) A (setItem (.ref D) (.int k t) (.bytes f u)) Q E s := by
  rw [bys_set] at U
  obtain ⟨pre, post, rfl, rfl, a, b'⟩ := U.split
  have z := N (D, W.listOf (bys its).toArray n) (List.mem_append.mpr (.inr (.head _)))
  have hs : (bys its).toArray.size = its.length := bys_size its
  refine ki_setAt z.1 h0 (by omega) (by omega) (h _ (F.change (Heap.SameBut.update ..) z.2.1 z.2.2) (ki_turn _ N a b' ?_ ?_))
  · show (bys its).toArray.setIfInBounds k.toNat (.bytes f u) = ((bys its).set k.toNat (.bytes f u)).toArray
    apply Array.toList_inj.mp
    simp
  · simp
end
theorem bys_len (its : List (Array UInt8 × Tok)) : (bys its).length = its.length := List.length_map _
theorem pick9 {its : List (Array UInt8 × Tok)} (h : its.length = 10) : kms_pick (bys its).toArray.toList none (some 9) = bys (its.take 9) := by
  match its, h with
  | [a, b, c, d, e, f, g, i, j, k], _ => rfl
theorem pick3 {its : List (Array UInt8 × Tok)} (h : its.length = 10) : kms_pick (bys its).toArray.toList none (some 3) = bys (its.take 3) := by
  match its, h with
  | [a, b, c, d, e, f, g, i, j, k], _ => rfl
theorem pick4 {its : List (Array UInt8 × Tok)} (h : its.length = 10) : kms_pick (bys its).toArray.toList (some 4) none = bys (its.drop 4) := by
  match its, h with
  | [a, b, c, d, e, f, g, i, j, k], _ => rfl
theorem bys_app (a b : List (Array UInt8 × Tok)) : (bys a).toArray.toList ++ (bys b).toArray.toList = bys (a ++ b) := by
  show bys a ++ bys b = _
  unfold bys
  rw [List.map_append]
inductive SpAt (fs : List (Array UInt8)) : Nat → Array UInt8 → Prop
  | one (f) : fs[9]? = some f → SpAt fs 9 (f ++ #[66])
  | two : SpAt fs 9 #[66, 66, 66]
  | three (i f x) : (i = 3 ∨ i = 4 ∨ i = 5 ∨ i = 8) → fs[i]? = some f → (x = #[63] ∨ x = #[] ∨ x = f ++ #[64] ∨ x = #[127]) → SpAt fs i x
  | four (i x) : (i = 6 ∨ i = 7) → (x = #[52] ∨ x = #[] ∨ x = #[120]) → SpAt fs i x
  | five (i x) : (i = 0 ∨ i = 1 ∨ i = 2) → (x = #[] ∨ x = #[45, 49] ∨ x = #[120]) → SpAt fs i x
inductive Spoilt (fs : List (Array UInt8)) : Array UInt8 → Prop
  | nine : Spoilt fs (joined #[59] (fs.take 9))
  | out : Spoilt fs (joined #[59] (fs.take 3 ++ fs.drop 4))
  | none : Spoilt fs #[]
  | one (i x) : SpAt fs i x → Spoilt fs (joined #[59] (fs.set i x))
theorem pickB3 {a b c : Array UInt8} {t1 t2 t3 : Tok} {i : Nat} {v : Value} (e : [Value.bytes a t1, .bytes b t2, .bytes c t3][i]? = some v) : ∃ x t, v = .bytes x t ∧ (x = a ∨ x = b ∨ x = c) := by
  have hv := List.mem_of_getElem? e
  simp only [List.mem_cons, List.not_mem_nil, or_false] at hv
  rcases hv with rfl | rfl | rfl
  · exact ⟨_, _, rfl, .inl rfl⟩
  · exact ⟨_, _, rfl, .inr (.inl rfl)⟩
  · exact ⟨_, _, rfl, .inr (.inr rfl)⟩
theorem pickB4 {a b c d : Array UInt8} {t1 t2 t3 t4 : Tok} {i : Nat} {v : Value} (e : [Value.bytes a t1, .bytes b t2, .bytes c t3, .bytes d t4][i]? = some v) : ∃ x t, v = .bytes x t ∧ (x = a ∨ x = b ∨ x = c ∨ x = d) := by
  have hv := List.mem_of_getElem? e
  simp only [List.mem_cons, List.not_mem_nil, or_false] at hv
  rcases hv with rfl | rfl | rfl | rfl
  · exact ⟨_, _, rfl, .inl rfl⟩
  · exact ⟨_, _, rfl, .inr (.inl rfl)⟩
  · exact ⟨_, _, rfl, .inr (.inr (.inl rfl))⟩
  · exact ⟨_, _, rfl, .inr (.inr (.inr rfl))⟩
theorem orn4 {x : Int} (h : x = 3 ∨ x = 4 ∨ x = 5 ∨ x = 8) : x.toNat = 3 ∨ x.toNat = 4 ∨ x.toNat = 5 ∨ x.toNat = 8 := by
  rcases h with rfl | rfl | rfl | rfl
  · exact .inl rfl
  · exact .inr (.inl rfl)
  · exact .inr (.inr (.inl rfl))
  · exact .inr (.inr (.inr rfl))
theorem orn3 {x : Int} (h : x = 0 ∨ x = 1 ∨ x = 2) : x.toNat = 0 ∨ x.toNat = 1 ∨ x.toNat = 2 := by
  rcases h with rfl | rfl | rfl
  · exact .inl rfl
  · exact .inr (.inl rfl)
  · exact .inr (.inr rfl)
theorem orn2 {x : Int} (h : x = 6 ∨ x = 7) : x.toNat = 6 ∨ x.toNat = 7 := by
  rcases h with rfl | rfl
  · exact .inl rfl
  · exact .inr rfl
theorem pickI4 {t1 t2 t3 t4 : Tok} {i : Nat} {v : Value} (e : [Value.int 3 t1, .int 4 t2, .int 5 t3, .int 8 t4][i]? = some v) : ∃ x t, v = .int x t ∧ (x = 3 ∨ x = 4 ∨ x = 5 ∨ x = 8) ∧ 0 ≤ x ∧ x < 10 := by
  have hv := List.mem_of_getElem? e
  simp only [List.mem_cons, List.not_mem_nil, or_false] at hv
  rcases hv with rfl | rfl | rfl | rfl <;> exact ⟨_, _, rfl, by omega, by omega, by omega⟩
theorem pickI2 {t1 t2 : Tok} {i : Nat} {v : Value} (e : [Value.int 6 t1, .int 7 t2][i]? = some v) : ∃ x t, v = .int x t ∧ (x = 6 ∨ x = 7) ∧ 0 ≤ x ∧ x < 10 := by
  have hv := List.mem_of_getElem? e
  simp only [List.mem_cons, List.not_mem_nil, or_false] at hv
  rcases hv with rfl | rfl <;> exact ⟨_, _, rfl, by omega, by omega, by omega⟩
theorem pickI3 {t1 t2 t3 : Tok} {i : Nat} {v : Value} (e : [Value.int 0 t1, .int 1 t2, .int 2 t3][i]? = some v) : ∃ x t, v = .int x t ∧ (x = 0 ∨ x = 1 ∨ x = 2) ∧ 0 ≤ x ∧ x < 10 := by
  have hv := List.mem_of_getElem? e
  simp only [List.mem_cons, List.not_mem_nil, or_false] at hv
  rcases hv with rfl | rfl | rfl <;> exact ⟨_, _, rfl, by omega, by omega, by omega⟩
theorem SpAt.size {fs : List (Array UInt8)} {i : Nat} {x : Array UInt8} (h : SpAt fs i x) (hz : ∀ f ∈ fs, f.size ≤ 60) : x.size ≤ 61 := by
  cases h with
  | one f e => have := hz f (List.mem_of_getElem? e); simp; omega
  | two => decide
  | three i f x _ e h =>
    have := hz f (List.mem_of_getElem? e)
    rcases h with rfl | rfl | rfl | rfl <;> simp <;> omega
  | four i x _ h => rcases h with rfl | rfl | rfl <;> decide
  | five i x _ h => rcases h with rfl | rfl | rfl <;> decide
section
variable {its : List (Array UInt8 × Tok)} (hl : its.length = 10) (hz : ∀ p ∈ its, p.1.size ≤ 60)
include hl hz
theorem sm_set {i : Nat} {x : Array UInt8} {t : Tok} (h : SpAt (its.map (·.1)) i x) : (its.set i (x, t)).length ≠ 1 ∧ Small #[59] (its.set i (x, t)) := by
  rw [List.length_set, hl]
  refine ⟨by decide, by decide, by rw [List.length_set, hl]; decide, fun p hp => ?_⟩
  rcases List.mem_or_eq_of_mem_set hp with hp | rfl
  · have := hz p hp; omega
  · have := h.size (fun f hf => by obtain ⟨p, hp, rfl⟩ := List.mem_map.mp hf; exact hz p hp)
    show x.size ≤ 64
    omega
theorem sm_nine : (its.take 9).length ≠ 1 ∧ Small #[59] (its.take 9) := by
  have e : (its.take 9).length = 9 := by rw [List.length_take, hl]; rfl
  rw [e]
  exact ⟨by decide, by decide, by rw [e]; decide, fun p hp => Nat.le_trans (hz p (List.mem_of_mem_take hp)) (by decide)⟩
theorem sm_out : (its.take 3 ++ its.drop 4).length ≠ 1 ∧ Small #[59] (its.take 3 ++ its.drop 4) := by
  have e : (its.take 3 ++ its.drop 4).length = 9 := by rw [List.length_append, List.length_take, List.length_drop, hl]; rfl
  rw [e]
  refine ⟨by decide, by decide, by rw [e]; decide, fun p hp => ?_⟩
  rcases List.mem_append.mp hp with hp | hp
  · exact Nat.le_trans (hz p (List.mem_of_mem_take hp)) (by decide)
  · exact Nat.le_trans (hz p (List.mem_of_mem_drop hp)) (by decide)
end
section
variable {prog : Program} {w : World} {A : Around} {E : Value → Shared → Prop} {s : Shared} {h₀ : Heap} {L l : Addr} {m : Str → Option Value} {news : Led} {its : List (Array UInt8 × Tok)} {k : Nat} {t : Tok} {Q : Value → Shared → Prop}
theorem join_sp {i : Nat} {x : Array UInt8} {u : Tok} (F : Fr h₀ L s.heap m) (N : News h₀ L s.heap news) (hm : (l, W.listOf (bys (its.set i (x, u))).toArray k) ∈ news) (hl : its.length = 10) (hz : ∀ p ∈ its, p.1.size ≤ 60) (h : SpAt (its.map (·.1)) i x)
    (r : ∀ bb t' tk, Spoilt (its.map (·.1)) bb → Q (.bytes bb t') { s with toks := tk }) : wpAny (model prog w) A (call (.builtin "bytes.join") [.bytes #[59] t, .ref l]) Q E s := by
  refine bytes_join _ F N hm rfl (sm_set hl hz h).1 (sm_set hl hz h).2 fun t' tk => r _ _ _ ?_
  rw [List.map_set]
  exact .one _ _ h
theorem join_nine (F : Fr h₀ L s.heap m) (N : News h₀ L s.heap news) (hm : (l, W.listOf (bys (its.take 9)).toArray k) ∈ news) (hl : its.length = 10) (hz : ∀ p ∈ its, p.1.size ≤ 60)
    (r : ∀ bb t' tk, Spoilt (its.map (·.1)) bb → Q (.bytes bb t') { s with toks := tk }) : wpAny (model prog w) A (call (.builtin "bytes.join") [.bytes #[59] t, .ref l]) Q E s := by
  refine bytes_join _ F N hm rfl (sm_nine hl hz).1 (sm_nine hl hz).2 fun t' tk => r _ _ _ ?_
  rw [List.map_take]
  exact .nine
theorem join_out (F : Fr h₀ L s.heap m) (N : News h₀ L s.heap news) (hm : (l, W.listOf (bys (its.take 3 ++ its.drop 4)).toArray k) ∈ news) (hl : its.length = 10) (hz : ∀ p ∈ its, p.1.size ≤ 60)
    (r : ∀ bb t' tk, Spoilt (its.map (·.1)) bb → Q (.bytes bb t') { s with toks := tk }) : wpAny (model prog w) A (call (.builtin "bytes.join") [.bytes #[59] t, .ref l]) Q E s := by
  refine bytes_join _ F N hm rfl (sm_out hl hz).1 (sm_out hl hz).2 fun t' tk => r _ _ _ ?_
  rw [List.map_append, List.map_take, List.map_drop]
  exact .out
end
theorem kw_WSpl_2 : True := by
  k_with "my call builtin:bytes.join" => ((fail_if_success k_extra "z45"); ((k_here; k_dflt (first
  | refine join_nine (s := ⟨_, _, _, _, _⟩) (by k_asm) (by k_asm) (by k_mem) (by assumption) (by assumption) ?_
  | refine join_out (s := ⟨_, _, _, _, _⟩) (by k_asm) (by k_asm) (by k_mem) (by assumption) (by assumption) ?_
  | refine join_sp (s := ⟨_, _, _, _, _⟩) (by k_asm) (by k_asm) (by k_mem) (by assumption) (by assumption) (by first | exact .two | exact .one _ (by assumption) | exact .three _ _ _ (by first | exact orn4 (by assumption) | exact orn3 (by assumption) | exact orn2 (by assumption) | omega) (by assumption) (by assumption) | exact .four _ _ (by first | exact orn4 (by assumption) | exact orn3 (by assumption) | exact orn2 (by assumption) | omega) (by assumption) | exact .five _ _ (by first | exact orn4 (by assumption) | exact orn3 (by assumption) | exact orn2 (by assumption) | omega) (by assumption)) ?_); intro bb' t' tk' hsp')))
  k_with "my subscriptTail Name Constant ref int" => ((fail_if_success k_extra "z45"); ((k_here; k_dflt (refine item_bys (s := ⟨_, _, _, _, _⟩) (by k_asm) (by k_mem) (by decide) (by decide) (by assumption) (by assumption) ?_); intro f' t' hf' hz')))
  k_with "my subscriptTail" => ((fail_if_success k_extra "z45"); ((k_here; (with_reducible show wpAny _ _ (subscriptTail _ (PySem.Expr.Name _ _) (Value.ref _) (Value.int _ _)) _ _ _); k_dflt (refine item_bys (s := ⟨_, _, _, _, _⟩) (by k_asm) (by k_mem) (by assumption) (by assumption) (by assumption) (by assumption) ?_); intro f' t' hf' hz')))
  k_with "my subscriptTail Name Name ref int" => ((fail_if_success k_extra "z45"); ((k_here; (with_reducible show wpAny _ _ (subscriptTail _ (PySem.Expr.Name _ _) (Value.ref _) (Value.int _ _)) _ _ _); k_dflt (refine item_bys (s := ⟨_, _, _, _, _⟩) (by k_asm) (by k_mem) (by assumption) (by assumption) (by assumption) (by assumption) ?_); intro f' t' hf' hz')))
  k_with "my setItem ref int" => ((fail_if_success k_extra "z45"); ((k_here; k_dflt (refine' set_bys (s := ⟨_, _, _, _, _⟩) ?F_182 ?N_182 ?U_182 ?h0_182 ?h1_182 ?hl_182 ?_; (case F_182 => k_asm); (case N_182 => k_asm); (case U_182 => k_upd); (case h0_182 => first | decide | assumption); (case h1_182 => first | decide | assumption); (case hl_182 => assumption)); intro h' F' N')))
  k_with "my binaryOp Add bytes bytes" => ((fail_if_success k_extra "z45"); ((k_here; k_dflt (refine KBy.add_bytes (by (simp only [Array.size_append, List.size_toArray, List.length_cons, List.length_nil]; omega)) ?_); intro _ _)))
  k_with "my call type:list" => ((fail_if_success k_extra "z45"); ((k_here; (with_reducible show wpAny _ _ (call (Value.type _) [Value.ref _]) _ _ _); k_dflt (refine' kup_listOf (zs := bys _) ?F_184 ?N_184 ?b_184 ?e_184 ?_ ?z_184; (case F_184 => k_asm); (case N_184 => k_asm); (case b_184 => k_mem); (case e_184 => rfl); (case z_184 => (show (bys _).length ≤ sizeLine; rw [bys_len]; exact Nat.le_trans (Nat.le_of_eq (by assumption)) (Nat.le_of_ble_eq_true rfl)))); intro D' c' h' F' N' l1; (try k_lt l1))))
  k_with "my subscriptTail Name Slice ref ref" => ((fail_if_success k_extra "z45"); ((k_here; k_dflt ((refine' kms_slice_lit (s := ⟨_, _, _, _, _⟩) (zs := bys _) ?F_185 ?N_185 ?l_185 ?p_185 ?q_185 ?e_185 ?_ ?s_185 ?t_185 ?z_185; (case F_185 => k_asm); (case N_185 => k_asm); (case l_185 => exact News.isList (by k_asm) (by k_mem)); (case p_185 => kmk_part); (case q_185 => kmk_part); (case e_185 => first | exact pick9 (by assumption) | exact pick3 (by assumption) | exact pick4 (by assumption)); (case s_185 => with_unfolding_all rfl); (case t_185 => kmk_pure); (case z_185 => (rw [bys_size]; exact Nat.le_trans (Nat.le_of_eq (by assumption)) (Nat.le_of_ble_eq_true rfl)))); intro D' h' F' N' l1; (try k_lt l1)))))
  k_with "my binaryOp Add ref ref" => ((fail_if_success k_extra "z45"); ((k_here; k_dflt (refine' kmk_add_lit ?F_186 ?N_186 ?a_186 ?b_186 (bys_app _ _) ?_ ?z_186; (case F_186 => k_asm); (case N_186 => k_asm); (case a_186 => exact News.isList (by k_asm) (by k_mem)); (case b_186 => exact News.isList (by k_asm) (by k_mem)); (case z_186 => (show (bys _).length + (bys _).length ≤ sizeLine; rw [bys_len, bys_len, List.length_take, List.length_drop]; exact Nat.le_trans (by omega : _ ≤ 20) (Nat.le_of_ble_eq_true rfl)))); intro D' h' F' N' l1; (try k_lt l1))))
  k_with "my call ref" => ((fail_if_success k_extra "z45"); ((k_here; (with_reducible show wpAny _ _ (call (Value.ref 1287) _) _ _ _); k_dflt (refine' Cl.use (draw_ok _ _ _ _ _ _ _ _ _ _ _ _ _ _ _ _ ?hD_187 ?hdc_187 ?U1_187 ?U2_187 ?hn_187 ?hb_187 ?hb2_187) ?B_187 ?F_187 ?X_187 ?N_187 ?T_187 ?hk_187 ?hd_187 ?hu_187 ?_; (case N_187 => k_asm); (case hD_187 => assumption); (case hdc_187 => assumption); (case U1_187 => k_updF); (case U2_187 => (intro o'; (try dsimp only); k_updF)); (case hn_187 => first | (apply Nat.le_trans; (repeat' first | with_reducible assumption | exact Nat.le_of_lt (by with_reducible assumption) | exact Nat.le_refl 1 | exact Nat.le_refl 6 | apply Nat.add_le_add); decide) | omega); (case hb_187 => first | decide | omega); (case hb2_187 => first | decide | omega); (case B_187 => assumption); (case F_187 => k_asm); (case X_187 => assumption); (case T_187 => assumption); (case hk_187 => rfl); (case hd_187 => ktr_room); (case hu_187 => ktr_units)); intro v t od' oc' v1 v2 D' h' tk' F' N'; (try dsimp only at N'))))
  k_with "my call ref" => ((fail_if_success k_extra "z45"); ((k_here; (with_reducible show wpAny _ _ (call (Value.ref 1294) _) _ _ _); k_dflt (refine' Cl.use (pick_ok _ _ _ _ _ _ _ _ _ _ _ _ _ _ _ _ _ ?hD_188 ?hdc_188 ?U1_188 ?U2_188 ?hn_188 ?hq_188 ?hqd_188 ?hb_188 ?hb2_188) ?B_188 ?F_188 ?X_188 ?N_188 ?T_188 ?hk_188 ?hd_188 ?hu_188 ?_; (case N_188 => k_asm); (case hD_188 => assumption); (case hdc_188 => assumption); (case U1_188 => k_updF); (case U2_188 => (intro o'; (try dsimp only); k_updF)); (case hq_188 => k_mem); (case hn_188 => first | (apply Nat.le_trans; (repeat' first | with_reducible assumption | exact Nat.le_of_lt (by with_reducible assumption) | exact Nat.le_refl 1 | exact Nat.le_refl 6 | apply Nat.add_le_add); decide) | omega); (case hqd_188 => first | with_reducible assumption | omega); (case hb_188 => exact Nat.succ_pos _); (case hb2_188 => exact Nat.le_of_ble_eq_true rfl); (case B_188 => assumption); (case F_188 => k_asm); (case X_188 => assumption); (case T_188 => assumption); (case hk_188 => rfl); (case hd_188 => ktr_room); (case hu_188 => ktr_units)); intro i v od' oc' ei D' h' tk' F' N'; (try dsimp only at N'); (try replace N' := News.tl N'); k_dflt (first | (obtain ⟨x, tx, ev, x1⟩ := pickB3 ei; subst ev) | (obtain ⟨x, tx, ev, x1⟩ := pickB4 ei; subst ev) | (obtain ⟨x, tx, ev, x1, x2, x3⟩ := pickI4 ei; subst ev) | (obtain ⟨x, tx, ev, x1, x2, x3⟩ := pickI3 ei; subst ev) | (obtain ⟨x, tx, ev, x1, x2, x3⟩ := pickI2 ei; subst ev)))))
  trivial
set_option maxHeartbeats 6000000 in
theorem spoilt_ok (w : World) (p : Program) (loose : List Str) (mean : ExcName → Option Value) (mg mb : Str → Option Value) (d c q : Addr) (n : Nat) (od oc : Obj) (its : List (Array UInt8 × Tok)) (k : Nat) (hn : n ≤ 500) (hD : Deck w c n od oc) (hdc : @LT.lt Nat _ d c) (hdq : @Ne Nat d q) (hcq : @Ne Nat c q) (hl : its.length = 10) (hz : ∀ p ∈ its, p.1.size ≤ 60) :
    Cq w p loose mean mg mb 8 1335 [.ref d, .ref q] [(d, od), (c, oc), (q, W.listOf (bys its).toArray k)] (fun v l => ∃ bb t n' od' oc', v = .bytes bb t ∧ Spoilt (its.map (·.1)) bb ∧ l = [(d, od'), (c, oc'), (q, W.listOf (bys its).toArray k)] ∧ Deck w c n' od' oc' ∧ n' ≤ n + 3) := _root_.id <| by
  k_dflt (refine' Cq.of_body (binds := [(("deck" : Str), .ref d), (("fields" : Str), .ref q)]) ?k6 ?k7 ?k9 ?kB ?c2 ?c3 ?c4 ?c5 ?_; (case k6 => k_is); (case k7 => k_is); (case k9 => exact rfl); (case kB => exact locs rfl); (case c2 => exact rfl); (case c3 => exact rfl); (case c4 => exact rfl); (case c5 => decide))
  intro dp un gd outer A₀ base g L h tk gs dr os Q B X Tp F N lL hd hu hQ
  revert hn hD hdc hdq hcq hl hz B X Tp F N lL hd hu hQ
  revert w p loose mean mg mb d c q n od oc its k dp un gd outer A₀ base g L h tk gs dr os Q
  k_extra "my d14"; intros w p loose mean mg mb d c q n od oc its k; k_extra "my of"
  k_extra "my d14"; intros dp un gd outer A₀ base g L h tk gs dr os Q; k_extra "my of"
  intros hn hD hdc hdq hcq hl hz B X Tp F N lL hd hu hQ
  haveI mk : Mark := Mark.mk
  try k_lt lL
  k_extra "my kclose"
  k_extra "my ks2"
  all_goals
    refine' hQ (.ret _) _ [(d, _), (c, _), (q, _)] _ _ _ ?ff ?nn ?sub ⟨_, _, _, _, _, rfl, ?sp, rfl, ?dk, ?le⟩
    case ff => assumption
    case nn => assumption
    case sub => (try simp only [List.cons_append, List.nil_append]); kcf_all
    case sp => first | assumption | exact .none
    case dk => with_reducible assumption
    case le => first | exact Nat.le_refl _ | omega
end
section
section
variable {A : Around} {s : Shared} {h₀ : Heap} {L : Addr} {news : Led}
theorem eqa_int {a b : Int} (t u : Tok) (h : a = b) : SeqAt.EqAt A s (.int a t) (.int b u) true := by
  subst h
  have := SeqAt.EqAt.int_int (A := A) (s := s) a t a u
  rwa [beq_self_eq_true] at this
theorem eqa_bool {a b : Bool} (h : a = b) : SeqAt.EqAt A s (.bool a) (.bool b) true := h ▸ .same _
theorem eqa_bytes {a b : Array UInt8} (t u : Tok) (h : a = b) : SeqAt.EqAt A s (.bytes a t) (.bytes b u) true := fun prog w E Q hq => eqBool_bytes (by rw [h, decide_eq_true rfl]; exact hq)
theorem eqa_sh {v v' : Value} {o o' : Option Int} (h : ShIs v o) (h' : ShIs v' o') (e : o = o') : SeqAt.EqAt A s v v' true := by
  subst e
  cases o with
  | none => rw [show v = .none from h, show v' = .none from h']; exact .same _
  | some x =>
    obtain ⟨t, rfl⟩ := (show ∃ t, v = .int x t from h)
    obtain ⟨t', rfl⟩ := (show ∃ t, v' = .int x t from h')
    exact eqa_int _ _ rfl
inductive EqAll (A : Around) (s : Shared) : List Value → List Value → Prop
  | nil : EqAll A s [] []
  | cons {a b : Value} {as bs : List Value} : SeqAt.EqAt A s a b true → EqAll A s as bs → EqAll A s (a :: as) (b :: bs)
theorem EqAll.len {as bs : List Value} (h : EqAll A s as bs) : as.length = bs.length := by
  induction h with
  | nil => rfl
  | cons _ _ ih => exact congrArg (· + 1) ih
theorem EqAll.at {as bs : List Value} (h : EqAll A s as bs) : ∀ (j : Nat) (h1 : j < as.length) (h2 : j < bs.length), SeqAt.EqAt A s as[j] bs[j] true := by
  induction h with
  | nil => exact fun j h1 => absurd h1 (Nat.not_lt_zero _)
  | cons h _ ih =>
    intro j h1 h2
    cases j with
    | zero => exact h
    | succ j => exact ih j (Nat.lt_of_succ_lt_succ h1) (Nat.lt_of_succ_lt_succ h2)
theorem all_t (n : Nat) : (List.range n).all (fun _ => true) = true := List.all_eq_true.mpr fun _ _ => rfl
theorem eqa_list {p q : Addr} {xs ys : List Value} {j k : Nat} (N : News h₀ L s.heap news) (h1 : (p, W.listOf xs.toArray j) ∈ news) (h2 : (q, W.listOf ys.toArray k) ∈ news) (hu : A.units < cLine) (h : EqAll A.in1 s xs ys) : SeqAt.EqAt A s (.ref p) (.ref q) true := by
  by_cases e : p = q
  · exact e ▸ .same _
  · have := SeqAt.RcAt.lists (e := fun _ => true) (News.isList N h1) (News.isList N h2) (by rw [List.size_toArray, List.size_toArray]; exact h.len) hu fun j a b => h.at j (by simpa using a) (by simpa using b)
    rw [all_t] at this
    exact .of_refs e this
theorem eqa_tup {p q : Addr} {xs ys : List Value} (N : News h₀ L s.heap news) (h1 : (p, tupV xs) ∈ news) (h2 : (q, tupV ys) ∈ news) (hu : A.units < cLine) (h : EqAll A.in1 s xs ys) : SeqAt.EqAt A s (.ref p) (.ref q) true := by
  by_cases e : p = q
  · exact e ▸ .same _
  · have := SeqAt.RcAt.tuples (e := fun _ => true) (items := xs.toArray) (items2 := ys.toArray) ⟨_, (N _ h1).1, rfl, _, rfl⟩ ⟨_, (N _ h2).1, rfl, _, rfl⟩ hu fun j a b => h.at j (by simpa using a) (by simpa using b)
    rw [all_t, List.size_toArray, List.size_toArray, h.len, beq_self_eq_true] at this
    exact .of_refs e this
theorem ne_lists {prog : Program} {w : World} {E : Value → Shared → Prop} {Q : Value → Shared → Prop} {p q : Addr} {xs ys : List Value} {j k : Nat} (N : News h₀ L s.heap news) (h1 : (p, W.listOf xs.toArray j) ∈ news) (h2 : (q, W.listOf ys.toArray k) ∈ news) (hu : A.units < cLine) (h : EqAll A.in1 s xs ys) (r : Q (.bool false) s) :
    wpAny (model prog w) A (compareOp .NotEq (.ref p) (.ref q)) Q E s := by
  have := SeqAt.RcNeAt.lists (e := fun _ => true) (News.isList N h1) (News.isList N h2) (by rw [List.size_toArray, List.size_toArray]; exact h.len) hu fun j a b => h.at j (by simpa using a) (by simpa using b)
  rw [all_t] at this
  exact this prog w E Q r
theorem eq_lists {prog : Program} {w : World} {E : Value → Shared → Prop} {Q : Value → Shared → Prop} {p q : Addr} {xs ys : List Value} {j k : Nat} (N : News h₀ L s.heap news) (h1 : (p, W.listOf xs.toArray j) ∈ news) (h2 : (q, W.listOf ys.toArray k) ∈ news) (hu : A.units < cLine) (h : EqAll A.in1 s xs ys) (r : Q (.bool true) s) :
    wpAny (model prog w) A (compareOp .Eq (.ref p) (.ref q)) Q E s := by
  have := SeqAt.RcAt.lists (e := fun _ => true) (News.isList N h1) (News.isList N h2) (by rw [List.size_toArray, List.size_toArray]; exact h.len) hu fun j a b => h.at j (by simpa using a) (by simpa using b)
  rw [all_t] at this
  exact this prog w E Q r
theorem ne_states {prog : Program} {w : World} {E : Value → Shared → Prop} {Q : Value → Shared → Prop} {q1 q2 p1 p2 n1 n2 : Addr} {r1 c1 r2 c2 l1 l2 g1 g2 f1 f2 x1 x2 y1 y2 z1 z2 w1 w2 : Int} {d1 d2 o1 o2 a1 a2 m1 m2 : Bool} {b0 b1 b2 b3 e0 e1 e2 e3 : Array UInt8} {sh1 sh2 : Value} {so1 so2 : Option Int} {t1 t2 t3 t4 u1 u2 u3 u4 v1 v2 v3 v4 v5 v6 v7 v8 v9 s1 s2 s3 s4 s5 s6 s7 s8 s9 : Tok} {k1 k2 k3 k4 : Nat}
    (N : News h₀ L s.heap news) (hu : A.in1.units < cLine) (hu0 : A.units < cLine)
    (h1 : (q1, W.listOf #[.int r1 t1, .int c1 t2, .ref p1, .bool d1, .bool o1, .bool a1, .ref n1, .int l1 t3, .int g1 t4, sh1, .bool m1] k1) ∈ news) (h2 : (q2, W.listOf #[.int r2 u1, .int c2 u2, .ref p2, .bool d2, .bool o2, .bool a2, .ref n2, .int l2 u3, .int g2 u4, sh2, .bool m2] k2) ∈ news)
    (h3 : (p1, tupV [.int f1 v1, .int x1 v2, .int y1 v3, .int z1 v4, .int w1 v5]) ∈ news) (h4 : (p2, tupV [.int f2 s1, .int x2 s2, .int y2 s3, .int z2 s4, .int w2 s5]) ∈ news)
    (h5 : (n1, W.listOf #[.bytes b0 v6, .bytes b1 v7, .bytes b2 v8, .bytes b3 v9] k3) ∈ news) (h6 : (n2, W.listOf #[.bytes e0 s6, .bytes e1 s7, .bytes e2 s8, .bytes e3 s9] k4) ∈ news)
    (hs1 : ShIs sh1 so1) (hs2 : ShIs sh2 so2)
    (e : (r1 = r2 ∧ c1 = c2 ∧ d1 = d2 ∧ o1 = o2 ∧ a1 = a2 ∧ l1 = l2 ∧ g1 = g2 ∧ so1 = so2 ∧ m1 = m2) ∧ (f1 = f2 ∧ x1 = x2 ∧ y1 = y2 ∧ z1 = z2 ∧ w1 = w2) ∧ b0 = e0 ∧ b1 = e1 ∧ b2 = e2 ∧ b3 = e3) (r : Q (.bool false) s) :
    wpAny (model prog w) A (compareOp .NotEq (.ref q1) (.ref q2)) Q E s := by
  obtain ⟨⟨i1, i2, i3, i4, i5, i6, i7, i8, i9⟩, ⟨j1, j2, j3, j4, j5⟩, j6, j7, j8, j9⟩ := e
  refine ne_lists (xs := [_, _, _, _, _, _, _, _, _, _, _]) (ys := [_, _, _, _, _, _, _, _, _, _, _]) N h1 h2 hu0 (.cons (eqa_int _ _ i1) (.cons (eqa_int _ _ i2) (.cons ?_ (.cons (eqa_bool i3) (.cons (eqa_bool i4) (.cons (eqa_bool i5) (.cons ?_ (.cons (eqa_int _ _ i6) (.cons (eqa_int _ _ i7) (.cons (eqa_sh hs1 hs2 i8) (.cons (eqa_bool i9) .nil))))))))))) r
  · exact eqa_tup N h3 h4 hu (.cons (eqa_int _ _ j1) (.cons (eqa_int _ _ j2) (.cons (eqa_int _ _ j3) (.cons (eqa_int _ _ j4) (.cons (eqa_int _ _ j5) .nil)))))
  · exact eqa_list (xs := [_, _, _, _]) (ys := [_, _, _, _]) N h5 h6 hu (.cons (eqa_bytes _ _ j6) (.cons (eqa_bytes _ _ j7) (.cons (eqa_bytes _ _ j8) (.cons (eqa_bytes _ _ j9) .nil))))
end
end
section
open PySem.Builtin.Bytes (joined)
theorem chk {f g : Nat → Nat} (h : (List.range 4096).all (fun n => Nat.beq (f n) (g n)) = true) {n : Nat} (hn : n < 4096) : f n = g n := Nat.eq_of_beq_eq_true (List.all_eq_true.mp h n (List.mem_range.mpr hn))
theorem n_and1 {n : Nat} (h : n < 4096) : n &&& 1 = n % 2 := chk (f := fun n => Nat.land n 1) (g := fun n => n % 2) (by kernel_rfl) h
theorem n_and8 {n : Nat} (h : n < 4096) : n &&& 8 = n / 8 % 2 * 8 := chk (f := fun n => Nat.land n 8) (g := fun n => n / 8 % 2 * 8) (by kernel_rfl) h
theorem n_and32 {n : Nat} (h : n < 4096) : n &&& 32 = n / 32 % 2 * 32 := chk (f := fun n => Nat.land n 32) (g := fun n => n / 32 % 2 * 32) (by kernel_rfl) h
theorem n_under {n : Nat} (h : n < 4096) : n &&& 3584 = n / 512 * 512 := chk (f := fun n => Nat.land n 3584) (g := fun n => n / 512 * 512) (by kernel_rfl) h
theorem n_and41 {n : Nat} (h : n < 4096) : n &&& 41 = n % 2 + n / 8 % 2 * 8 + n / 32 % 2 * 32 := chk (f := fun n => Nat.land n 41) (g := fun n => n % 2 + n / 8 % 2 * 8 + n / 32 % 2 * 32) (by kernel_rfl) h
theorem n_or1 {n : Nat} (h : n < 4096) : n ||| 1 = n - n % 2 + 1 := chk (f := fun n => Nat.lor n 1) (g := fun n => n - n % 2 + 1) (by kernel_rfl) h
theorem n_or8 {n : Nat} (h : n < 4096) : n ||| 8 = n - n / 8 % 2 * 8 + 8 := chk (f := fun n => Nat.lor n 8) (g := fun n => n - n / 8 % 2 * 8 + 8) (by kernel_rfl) h
theorem n_or32 {n : Nat} (h : n < 4096) : n ||| 32 = n - n / 32 % 2 * 32 + 32 := chk (f := fun n => Nat.lor n 32) (g := fun n => n - n / 32 % 2 * 32 + 32) (by kernel_rfl) h
theorem n_orH {n : Nat} (h : n < 4096) : (n % 512) ||| (n / 512 * 512) = n := chk (f := fun n => Nat.lor (n % 512) (n / 512 * 512)) (g := fun n => n) (by kernel_rfl) h
theorem bitOr_pp {x y : Int} (hx : 0 ≤ x) (hy : 0 ≤ y) : Builtin.bitOr x y = ((x.toNat ||| y.toNat : Nat) : Int) := by
  unfold Builtin.bitOr
  rw [bitAnd_nn (by unfold Builtin.bitNot; omega) (by unfold Builtin.bitNot; omega)]
  have e : ∀ z : Int, Builtin.bitNot (Builtin.bitNot z) = z := fun z => by unfold Builtin.bitNot; omega
  rw [e, e, e]
theorem i_and {n : Nat} {y : Int} (hy : 0 ≤ y) : Builtin.bitAnd (n : Int) y = ((n &&& y.toNat : Nat) : Int) := by
  rw [bitAnd_pp (Int.natCast_nonneg n) hy, Int.toNat_natCast]
theorem i_clear {n : Nat} {y : Int} (hy : 0 ≤ y) : Builtin.bitAnd (n : Int) (Builtin.bitNot y) = (n : Int) - ((n &&& y.toNat : Nat) : Int) := by
  have e : Builtin.bitNot (Builtin.bitNot y) = y := by unfold Builtin.bitNot; omega
  rw [bitAnd_pn (Int.natCast_nonneg n) (by unfold Builtin.bitNot; omega), Int.toNat_natCast, e]
theorem i_or {n : Nat} {y : Int} (hy : 0 ≤ y) : Builtin.bitOr (n : Int) y = ((n ||| y.toNat : Nat) : Int) := by
  rw [bitOr_pp (Int.natCast_nonneg n) hy, Int.toNat_natCast]
theorem c41 : Builtin.bitOr (Builtin.bitOr 1 8) 32 = 41 := by decide
theorem p9 : (2 : Int) ^ Int.toNat 9 = 512 := by decide
theorem rep_bits {fl : Int} (h0 : 0 ≤ fl) (h1 : fl < 4096) : (Builtin.bitAnd fl 1 != 0) = (fl.fmod 2 == 1) ∧ ((Builtin.bitAnd fl 3584).fdiv (2 ^ Int.toNat 9) != 0) = decide (0 < fl.fdiv 512) ∧ (Builtin.bitAnd fl 8 != 0) = ((fl.fdiv 8).fmod 2 == 1) ∧ (Builtin.bitAnd fl 32 != 0) = ((fl.fdiv 32).fmod 2 == 1) := by
  obtain ⟨n, rfl⟩ := Int.eq_ofNat_of_zero_le h0
  have hn : n < 4096 := by omega
  have e1 : Builtin.bitAnd (n : Int) 1 = ((n % 2 : Nat) : Int) := by rw [i_and (by decide)]; exact congrArg _ (n_and1 hn)
  have e2 : Builtin.bitAnd (n : Int) 3584 = ((n / 512 * 512 : Nat) : Int) := by rw [i_and (by decide)]; exact congrArg _ (n_under hn)
  have e3 : Builtin.bitAnd (n : Int) 8 = ((n / 8 % 2 * 8 : Nat) : Int) := by rw [i_and (by decide)]; exact congrArg _ (n_and8 hn)
  have e4 : Builtin.bitAnd (n : Int) 32 = ((n / 32 % 2 * 32 : Nat) : Int) := by rw [i_and (by decide)]; exact congrArg _ (n_and32 hn)
  rw [e1, e2, e3, e4, p9]
  simp only [Int.fdiv_eq_ediv_of_nonneg _ (show (0 : Int) ≤ 512 by decide), Int.fdiv_eq_ediv_of_nonneg _ (show (0 : Int) ≤ 8 by decide), Int.fdiv_eq_ediv_of_nonneg _ (show (0 : Int) ≤ 32 by decide), Int.fmod_eq_emod_of_nonneg _ (show (0 : Int) ≤ 2 by decide)]
  refine ⟨?_, ?_, ?_, ?_⟩
  · show (((n % 2 : Nat) : Int) != 0) = (((n % 2 : Nat) : Int) == 1)
    rcases Nat.mod_two_eq_zero_or_one n with h | h <;> rw [h] <;> rfl
  · show (((n / 512 * 512 / 512 : Nat) : Int) != 0) = decide (0 < ((n / 512 : Nat) : Int))
    rw [Nat.mul_div_cancel _ (by decide)]
    cases n / 512 with
    | zero => rfl
    | succ k =>
      have hk : (0 : Int) < ((k + 1 : Nat) : Int) := Int.natCast_pos.mpr (Nat.succ_pos k)
      rw [decide_eq_true hk]
      exact bne_iff_ne.mpr (Int.ne_of_gt hk)
  · show (((n / 8 % 2 * 8 : Nat) : Int) != 0) = (((n / 8 % 2 : Nat) : Int) == 1)
    rcases Nat.mod_two_eq_zero_or_one (n / 8) with h | h <;> rw [h] <;> rfl
  · show (((n / 32 % 2 * 32 : Nat) : Int) != 0) = (((n / 32 % 2 : Nat) : Int) == 1)
    rcases Nat.mod_two_eq_zero_or_one (n / 32) with h | h <;> rw [h] <;> rfl
theorem or_b {x : Nat} {a : Bool} {k : Int} (hk : 0 ≤ k) (h : ∀ _ : a = true, x ||| k.toNat = x + k.toNat) : Builtin.bitOr (x : Int) (bif a then k else 0) = ((x + (bif a then k.toNat else 0) : Nat) : Int) := by
  cases a with
  | true => rw [cond_true, cond_true, i_or hk, h rfl]
  | false => rw [cond_false, cond_false, i_or (by decide)]; simp
theorem chkB {f : Nat → Bool} (h : (List.range 4096).all f = true) {n : Nat} (hn : n < 4096) : f n = true := List.all_eq_true.mp h n (List.mem_range.mpr hn)
theorem low_or1 {n : Nat} (hn : n < 4096) : (n - n % 2 - n / 8 % 2 * 8 - n / 32 % 2 * 32) ||| 1 = n - n % 2 - n / 8 % 2 * 8 - n / 32 % 2 * 32 + 1 := chk (f := fun n => Nat.lor (n - n % 2 - n / 8 % 2 * 8 - n / 32 % 2 * 32) 1) (g := fun n => n - n % 2 - n / 8 % 2 * 8 - n / 32 % 2 * 32 + 1) (by kernel_rfl) hn
theorem low_or8 {n : Nat} (hn : n < 4096) : ∀ a0 : Bool, (n - n % 2 - n / 8 % 2 * 8 - n / 32 % 2 * 32 + (bif a0 then 1 else 0)) ||| 8 = n - n % 2 - n / 8 % 2 * 8 - n / 32 % 2 * 32 + (bif a0 then 1 else 0) + 8
  | true => chk (f := fun n => Nat.lor (n - n % 2 - n / 8 % 2 * 8 - n / 32 % 2 * 32 + 1) 8) (g := fun n => n - n % 2 - n / 8 % 2 * 8 - n / 32 % 2 * 32 + 1 + 8) (by kernel_rfl) hn
  | false => chk (f := fun n => Nat.lor (n - n % 2 - n / 8 % 2 * 8 - n / 32 % 2 * 32 + 0) 8) (g := fun n => n - n % 2 - n / 8 % 2 * 8 - n / 32 % 2 * 32 + 0 + 8) (by kernel_rfl) hn
theorem low_or32 {n : Nat} (hn : n < 4096) : ∀ a0 a2 : Bool, (n - n % 2 - n / 8 % 2 * 8 - n / 32 % 2 * 32 + (bif a0 then 1 else 0) + (bif a2 then 8 else 0)) ||| 32 = n - n % 2 - n / 8 % 2 * 8 - n / 32 % 2 * 32 + (bif a0 then 1 else 0) + (bif a2 then 8 else 0) + 32
  | true, true => chk (f := fun n => Nat.lor (n - n % 2 - n / 8 % 2 * 8 - n / 32 % 2 * 32 + 1 + 8) 32) (g := fun n => n - n % 2 - n / 8 % 2 * 8 - n / 32 % 2 * 32 + 1 + 8 + 32) (by kernel_rfl) hn
  | true, false => chk (f := fun n => Nat.lor (n - n % 2 - n / 8 % 2 * 8 - n / 32 % 2 * 32 + 1 + 0) 32) (g := fun n => n - n % 2 - n / 8 % 2 * 8 - n / 32 % 2 * 32 + 1 + 0 + 32) (by kernel_rfl) hn
  | false, true => chk (f := fun n => Nat.lor (n - n % 2 - n / 8 % 2 * 8 - n / 32 % 2 * 32 + 0 + 8) 32) (g := fun n => n - n % 2 - n / 8 % 2 * 8 - n / 32 % 2 * 32 + 0 + 8 + 32) (by kernel_rfl) hn
  | false, false => chk (f := fun n => Nat.lor (n - n % 2 - n / 8 % 2 * 8 - n / 32 % 2 * 32 + 0 + 0) 32) (g := fun n => n - n % 2 - n / 8 % 2 * 8 - n / 32 % 2 * 32 + 0 + 0 + 32) (by kernel_rfl) hn
theorem low_sub {n : Nat} (hn : n < 4096) : (n : Int) - ((n % 2 + n / 8 % 2 * 8 + n / 32 % 2 * 32 : Nat) : Int) = ((n - n % 2 - n / 8 % 2 * 8 - n / 32 % 2 * 32 : Nat) : Int) := by
  have h : n % 2 + n / 8 % 2 * 8 + n / 32 % 2 * 32 ≤ n := Nat.le_of_ble_eq_true (chkB (f := fun n => Nat.ble (n % 2 + n / 8 % 2 * 8 + n / 32 % 2 * 32) n) (by kernel_rfl) hn)
  have e : n - (n % 2 + n / 8 % 2 * 8 + n / 32 % 2 * 32) = n - n % 2 - n / 8 % 2 * 8 - n / 32 % 2 * 32 := chk (f := fun n => n - (n % 2 + n / 8 % 2 * 8 + n / 32 % 2 * 32)) (g := fun n => n - n % 2 - n / 8 % 2 * 8 - n / 32 % 2 * 32) (by kernel_rfl) hn
  rw [← e, Int.ofNat_sub h]
theorem low_lt {n : Nat} (hn : n < 4096) (a0 a2 a3 : Bool) : n - n % 2 - n / 8 % 2 * 8 - n / 32 % 2 * 32 + (bif a0 then 1 else 0) + (bif a2 then 8 else 0) + (bif a3 then 32 else 0) < 4096 := by
  have h : n - n % 2 - n / 8 % 2 * 8 - n / 32 % 2 * 32 + 1 + 8 + 32 < 4096 := Nat.le_of_ble_eq_true (chkB (f := fun n => Nat.ble (Nat.succ (n - n % 2 - n / 8 % 2 * 8 - n / 32 % 2 * 32 + 1 + 8 + 32)) 4096) (by kernel_rfl) hn)
  have c : ∀ (b : Bool) (k : Nat), (bif b then k else 0) ≤ k := fun b k => by cases b; exact Nat.zero_le _; exact Nat.le_refl _
  exact Nat.lt_of_le_of_lt (Nat.add_le_add (Nat.add_le_add (Nat.add_le_add_left (c a0 1) _) (c a2 8)) (c a3 32)) h
theorem low_is {n : Nat} (hn : n < 4096) (a0 a2 a3 : Bool) : rcLow (n : Int) a0 a2 a3 = ((n - n % 2 - n / 8 % 2 * 8 - n / 32 % 2 * 32 + (bif a0 then 1 else 0) + (bif a2 then 8 else 0) + (bif a3 then 32 else 0) : Nat) : Int) := by
  unfold rcLow
  rw [c41, i_clear (by decide), show ((41 : Int).toNat) = 41 from rfl, n_and41 hn]
  rw [low_sub hn, or_b (k := 1) (by decide) fun _ => ?_, or_b (k := 8) (by decide) fun _ => ?_, or_b (k := 32) (by decide) fun _ => ?_]
  · rfl
  · exact low_or32 hn a0 a2
  · exact low_or8 hn a0
  · exact low_or1 hn
theorem rcFl_is {n m : Nat} {a0 a2 a3 : Bool} (hm : (n - n % 2 - n / 8 % 2 * 8 - n / 32 % 2 * 32 + (bif a0 then 1 else 0) + (bif a2 then 8 else 0) + (bif a3 then 32 else 0)) = m) (hn : n < 4096) (a1 : Bool) : rcFl (n : Int) a0 a1 a2 a3 = ((m % 512 + (bif a1 then (if m / 512 = 0 then 1 else m / 512) else 0) * 512 : Nat) : Int) := by
  have hm' : m < 4096 := hm ▸ low_lt hn a0 a2 a3
  unfold rcFl
  rw [low_is hn, hm, i_clear (by decide), i_and (by decide), show ((3584 : Int).toNat) = 3584 from rfl, n_under hm', p9]
  have e1 : (m : Int) - ((m / 512 * 512 : Nat) : Int) = ((m % 512 : Nat) : Int) := by omega
  have e2 : ((m / 512 * 512 : Nat) : Int).fdiv 512 = ((m / 512 : Nat) : Int) := by
    rw [Int.fdiv_eq_ediv_of_nonneg _ (show (0 : Int) ≤ 512 by decide)]; exact congrArg Int.ofNat (Nat.mul_div_cancel (m / 512) (show 0 < 512 by decide))
  rw [e1, e2]
  have e3 : (bif a1 then (bif ((m / 512 : Nat) : Int) != 0 then ((m / 512 : Nat) : Int) else 1) else 0) * 512 = (((bif a1 then (if m / 512 = 0 then 1 else m / 512) else 0) * 512 : Nat) : Int) := by
    cases a1 with
    | false => rfl
    | true =>
      simp only [cond_true]
      by_cases h : m / 512 = 0
      · rw [h]; rfl
      · have hb : (((m / 512 : Nat) : Int) != 0) = true := by rw [bne_iff_ne]; exact fun e => h (Int.ofNat.inj e)
        rw [hb, cond_true, if_neg h, Int.natCast_mul]
        rfl
  rw [e3, i_or (Int.natCast_nonneg _), Int.toNat_natCast]
  generalize hk : (bif a1 then (if m / 512 = 0 then 1 else m / 512) else 0) = k
  have hk8 : k < 8 := by rw [← hk]; cases a1 <;> simp only [cond_true, cond_false] <;> (try split) <;> first | decide | exact Nat.div_lt_of_lt_mul hm'
  have := n_orH (n := m % 512 + k * 512) (Nat.lt_of_lt_of_le (Nat.add_lt_add_right (Nat.mod_lt m (by decide)) (k * 512)) (Nat.add_le_add_left (Nat.mul_le_mul_right 512 (Nat.le_of_lt_succ hk8)) 512))
  have f1 : (m % 512 + k * 512) % 512 = m % 512 := by rw [Nat.add_mul_mod_self_right, Nat.mod_mod]
  have f2 : (m % 512 + k * 512) / 512 = k := by rw [Nat.add_mul_div_right _ _ (by decide), Nat.div_eq_of_lt (Nat.mod_lt _ (by decide)), Nat.zero_add]
  rw [f1, f2] at this
  rw [this]
theorem mid_put {x r : Int} (h0 : 0 ≤ x) (hr : 1 ≤ r) : rcMid (x + 1) r = putMid x r := by
  unfold rcMid putMid
  repeat' split
  all_goals omega
end
section
theorem s8 {f : Nat} (h : f < 4096) {x : Nat} (hx : x = 0 ∨ x = 1) : (f - f % 2 + x) / 8 % 2 = f / 8 % 2 := by
  rcases hx with rfl | rfl
  · exact chk (f := fun f => (f - f % 2 + 0) / 8 % 2) (g := fun f => f / 8 % 2) (by kernel_rfl) h
  · exact chk (f := fun f => (f - f % 2 + 1) / 8 % 2) (g := fun f => f / 8 % 2) (by kernel_rfl) h
theorem s32 {f : Nat} (h : f < 4096) {x y : Nat} (hx : x = 0 ∨ x = 1) (hy : y = 0 ∨ y = 1) : (f - f % 2 + x - f / 8 % 2 * 8 + y * 8) / 32 % 2 = f / 32 % 2 := by
  rcases hx with rfl | rfl <;> rcases hy with rfl | rfl
  · exact chk (f := fun f => (f - f % 2 + 0 - f / 8 % 2 * 8 + 0 * 8) / 32 % 2) (g := fun f => f / 32 % 2) (by kernel_rfl) h
  · exact chk (f := fun f => (f - f % 2 + 0 - f / 8 % 2 * 8 + 1 * 8) / 32 % 2) (g := fun f => f / 32 % 2) (by kernel_rfl) h
  · exact chk (f := fun f => (f - f % 2 + 1 - f / 8 % 2 * 8 + 0 * 8) / 32 % 2) (g := fun f => f / 32 % 2) (by kernel_rfl) h
  · exact chk (f := fun f => (f - f % 2 + 1 - f / 8 % 2 * 8 + 1 * 8) / 32 % 2) (g := fun f => f / 32 % 2) (by kernel_rfl) h
theorem sc {f : Nat} (h : f < 4096) : (f - f % 2 - f / 8 % 2 * 8 - f / 32 % 2 * 32) / 512 = f / 512 ∧ ((f - f % 2 - f / 8 % 2 * 8 - f / 32 % 2 * 32) % 512 + 41) / 512 = 0 ∧ f - f % 2 - f / 8 % 2 * 8 - f / 32 % 2 * 32 + (f % 2 + f / 8 % 2 * 8 + f / 32 % 2 * 32) = f :=
  ⟨chk (f := fun f => (f - f % 2 - f / 8 % 2 * 8 - f / 32 % 2 * 32) / 512) (g := fun f => f / 512) (by kernel_rfl) h, chk (f := fun f => ((f - f % 2 - f / 8 % 2 * 8 - f / 32 % 2 * 32) % 512 + 41) / 512) (g := fun f => 0) (by kernel_rfl) h, chk (f := fun f => f - f % 2 - f / 8 % 2 * 8 - f / 32 % 2 * 32 + (f % 2 + f / 8 % 2 * 8 + f / 32 % 2 * 32)) (g := fun f => f) (by kernel_rfl) h⟩
theorem putB_nat {f n b : Nat} (hb : 0 < b) (h : f / b % 2 * b ≤ f) : putB (f : Int) (n : Int) (b : Int) = ((f - f / b % 2 * b + n / b % 2 * b : Nat) : Int) := by
  unfold putB
  have hb' : (0 : Int) ≤ (b : Int) := Int.natCast_nonneg b
  rw [Int.fdiv_eq_ediv_of_nonneg _ hb', Int.fdiv_eq_ediv_of_nonneg _ hb', Int.fmod_eq_emod_of_nonneg _ (by decide), Int.fmod_eq_emod_of_nonneg _ (by decide), Int.natCast_add, Int.ofNat_sub h, Int.natCast_mul, Int.natCast_mul, Int.natCast_emod, Int.natCast_emod, Int.natCast_ediv, Int.natCast_ediv]
  rfl
theorem m2 (k : Nat) : k % 2 = 0 ∨ k % 2 = 1 := Nat.mod_two_eq_zero_or_one k
theorem bif_nat {k c : Nat} (z : Int) (e : z = (k : Int)) : (bif z == 1 then c else 0) = (if k = 1 then c else 0) := by
  subst e
  by_cases h : k = 1
  · rw [if_pos h, h]; rfl
  · rw [if_neg h, show (((k : Nat) : Int) == 1) = false by rw [beq_eq_false_iff_ne]; omega]; rfl
theorem lw1 {c0 a B C : Nat} : c0 + (a + B + C) - a = c0 + C + B := by
  rw [show c0 + (a + B + C) = c0 + C + B + a by simp only [Nat.add_assoc, Nat.add_comm, Nat.add_left_comm], Nat.add_sub_cancel]
theorem lw2 {c0 a B C x : Nat} : c0 + (a + B + C) - a + x - B = c0 + C + x := by
  rw [lw1, Nat.add_right_comm, Nat.add_sub_cancel]
theorem low_sum {f a b c x y z : Nat} (h : f - a - b * 8 - c * 32 + (a + b * 8 + c * 32) = f) (hx : x ≤ 1) : f - a + x - b * 8 + y * 8 - c * 32 + z * 32 = f - a - b * 8 - c * 32 + x + y * 8 + z * 32 := by
  generalize f - a - b * 8 - c * 32 = c0 at h ⊢
  rw [← h, lw2, Nat.add_right_comm c0 (c * 32) x, Nat.add_right_comm (c0 + x) (c * 32) (y * 8), Nat.add_sub_cancel]
theorem le8 {f a b c : Nat} (h : f - a - b * 8 - c * 32 + (a + b * 8 + c * 32) = f) (x : Nat) : b * 8 ≤ f - a + x := by
  generalize f - a - b * 8 - c * 32 = c0 at h
  rw [← h, lw1]
  exact Nat.le_trans (Nat.le_add_left _ _) (Nat.le_add_right _ _)
theorem le32 {f a b c : Nat} (h : f - a - b * 8 - c * 32 + (a + b * 8 + c * 32) = f) (x y : Nat) : c * 32 ≤ f - a + x - b * 8 + y * 8 := by
  generalize f - a - b * 8 - c * 32 = c0 at h
  rw [← h, lw2]
  exact Nat.le_trans (Nat.le_trans (Nat.le_add_left _ _) (Nat.le_add_right _ _)) (Nat.le_add_right _ _)
theorem put_low {f n : Nat} (hf : f < 4096) : putB (putB (putB (f : Int) (n : Int) 1) (n : Int) 8) (n : Int) 32 = ((f - f % 2 - f / 8 % 2 * 8 - f / 32 % 2 * 32 + n % 2 + n / 8 % 2 * 8 + n / 32 % 2 * 32 : Nat) : Int) := by
  have e1 : putB (f : Int) (n : Int) 1 = ((f - f % 2 + n % 2 : Nat) : Int) := by
    have := putB_nat (f := f) (n := n) (b := 1) (by decide) (by rw [Nat.div_one, Nat.mul_one]; exact Nat.mod_le _ _)
    rw [Nat.div_one, Nat.div_one, Nat.mul_one, Nat.mul_one] at this
    exact this
  have e2 : putB ((f - f % 2 + n % 2 : Nat) : Int) (n : Int) 8 = ((f - f % 2 + n % 2 - f / 8 % 2 * 8 + n / 8 % 2 * 8 : Nat) : Int) := by
    have := putB_nat (f := f - f % 2 + n % 2) (n := n) (b := 8) (by decide) (by rw [s8 hf (m2 n)]; exact le8 (sc hf).2.2 _)
    rw [s8 hf (m2 n)] at this
    exact this
  have e3 : putB ((f - f % 2 + n % 2 - f / 8 % 2 * 8 + n / 8 % 2 * 8 : Nat) : Int) (n : Int) 32 = ((f - f % 2 + n % 2 - f / 8 % 2 * 8 + n / 8 % 2 * 8 - f / 32 % 2 * 32 + n / 32 % 2 * 32 : Nat) : Int) := by
    have := putB_nat (f := f - f % 2 + n % 2 - f / 8 % 2 * 8 + n / 8 % 2 * 8) (n := n) (b := 32) (by decide) (by rw [s32 hf (m2 n) (m2 (n / 8))]; exact le32 (sc hf).2.2 _ _)
    rw [s32 hf (m2 n) (m2 (n / 8))] at this
    exact this
  rw [e1, e2, e3]
  exact congrArg _ (low_sum (sc hf).2.2 (Nat.le_of_lt_succ (Nat.mod_lt _ (by decide))))
theorem fm2 (n : Nat) : (n : Int).fmod 2 = ((n % 2 : Nat) : Int) := by rw [Int.fmod_eq_emod_of_nonneg _ (by decide)]; rfl
theorem fd (n : Nat) {k : Nat} : (n : Int).fdiv (k : Int) = ((n / k : Nat) : Int) := by rw [Int.fdiv_eq_ediv_of_nonneg _ (Int.natCast_nonneg k)]; rfl
theorem if2 (k c : Nat) : (if k % 2 = 1 then c else 0) = k % 2 * c := by
  rcases m2 k with h | h <;> rw [h]
  · rw [if_neg (by decide), Nat.zero_mul]
  · rw [if_pos rfl, Nat.one_mul]
theorem fin_mod {c x y z : Nat} (c2 : (c % 512 + 41) / 512 = 0) (hx : x ≤ 1) (hy : y ≤ 1) (hz : z ≤ 1) : (c + x + y * 8 + z * 32) % 512 = c % 512 + x + y * 8 + z * 32 := by omega
theorem fin_div {c x y z : Nat} (c2 : (c % 512 + 41) / 512 = 0) (hx : x ≤ 1) (hy : y ≤ 1) (hz : z ≤ 1) : (c + x + y * 8 + z * 32) / 512 = c / 512 := by
  have r : c % 512 + (x + y * 8 + z * 32) < 512 := Nat.lt_of_le_of_lt (Nat.add_le_add_left (Nat.add_le_add (Nat.add_le_add hx (Nat.mul_le_mul_right 8 hy)) (Nat.mul_le_mul_right 32 hz)) _) (Nat.lt_of_div_eq_zero (by decide) c2)
  have e : c + x + y * 8 + z * 32 = c + (x + y * 8 + z * 32) := by rw [Nat.add_assoc c, Nat.add_assoc c]
  have e2 : c + (x + y * 8 + z * 32) = 512 * (c / 512) + (c % 512 + (x + y * 8 + z * 32)) := by rw [← Nat.add_assoc (512 * (c / 512)) (c % 512) (x + y * 8 + z * 32), Nat.div_add_mod]
  rw [e, e2, Nat.mul_add_div (by decide), Nat.div_eq_of_lt r, Nat.add_zero]
theorem fin_kind {a N K : Nat} : ((a + (bif decide ((0 : Int) < ((N : Nat) : Int)) then (if K = 0 then 1 else K) else 0) * 512 : Nat) : Int) = (a : Int) + (bif !decide ((0 : Int) < ((N : Nat) : Int)) then 0 else bif decide ((0 : Int) < ((K : Nat) : Int)) then ((K : Nat) : Int) else 1) * 512 := by
  by_cases hN : N = 0
  · subst hN
    rfl
  · rw [show decide ((0 : Int) < ((N : Nat) : Int)) = true from decide_eq_true (Int.natCast_pos.mpr (Nat.pos_of_ne_zero hN))]
    simp only [Bool.not_true, cond_true, cond_false]
    by_cases hK : K = 0
    · subst hK; rfl
    · rw [if_neg hK, show decide ((0 : Int) < ((K : Nat) : Int)) = true from decide_eq_true (Int.natCast_pos.mpr (Nat.pos_of_ne_zero hK)), cond_true]
      rfl
theorem le1 (n : Nat) : n % 2 ≤ 1 := Nat.le_of_lt_succ (Nat.mod_lt _ (by decide))
theorem rc_put {nf ff : Int} (h0 : 0 ≤ nf) (k0 : 0 ≤ ff) (k1 : ff < 4096) : rcFl ff (nf.fmod 2 == 1) (decide (0 < nf.fdiv 512)) ((nf.fdiv 8).fmod 2 == 1) ((nf.fdiv 32).fmod 2 == 1) = putFl nf ff := by
  obtain ⟨n, rfl⟩ := Int.eq_ofNat_of_zero_le h0
  obtain ⟨f, rfl⟩ := Int.eq_ofNat_of_zero_le k0
  have hf : f < 4096 := Int.ofNat_lt.mp k1
  have c2 := (sc hf).2.1
  have d8 : ((n : Int).fdiv 8) = ((n / 8 : Nat) : Int) := fd n (k := 8)
  have d32 : ((n : Int).fdiv 32) = ((n / 32 : Nat) : Int) := fd n (k := 32)
  have d512 : ((n : Int).fdiv 512) = ((n / 512 : Nat) : Int) := fd n (k := 512)
  have e512 : ((f : Int).fdiv 512) = ((f / 512 : Nat) : Int) := fd f (k := 512)
  have hz : (((f - f % 2 - f / 8 % 2 * 8 - f / 32 % 2 * 32 + n % 2 + n / 8 % 2 * 8 + n / 32 % 2 * 32 : Nat) : Int)).fmod 512 = (((f - f % 2 - f / 8 % 2 * 8 - f / 32 % 2 * 32 + n % 2 + n / 8 % 2 * 8 + n / 32 % 2 * 32) % 512 : Nat) : Int) := by
    rw [Int.fmod_eq_emod_of_nonneg _ (by decide)]; rfl
  unfold putFl
  rw [put_low hf, rcFl_is (m := f - f % 2 - f / 8 % 2 * 8 - f / 32 % 2 * 32 + n % 2 + n / 8 % 2 * 8 + n / 32 % 2 * 32) ?_ hf, d512, e512, hz, fin_div c2 (le1 n) (le1 _) (le1 _), (sc hf).1]
  · exact fin_kind
  · rw [d8, d32, bif_nat _ (fm2 n), bif_nat _ (fm2 (n / 8)), bif_nat _ (fm2 (n / 32)), if2, if2, if2, Nat.mul_one]
end
section
open PySem.Builtin.Bytes (joined)
theorem join0 (a b c d : Array UInt8) : joined #[] [a, b, c, d] = a ++ b ++ c ++ d := by
  unfold joined
  simp [List.zipIdx_cons, List.foldl_cons]
theorem rep_law {σ : SV} (h0 : 0 ≤ σ.fl) (h1 : σ.fl < 4096) : joined #[59] (repParts σ) = joined #[59] (lawF σ) := by
  obtain ⟨e1, e2, e3, e4⟩ := rep_bits h0 h1
  apply Array.toList_inj.mp
  rw [joined_jl, joined_jl]
  unfold repParts lawF
  rw [e1, e2, e3, e4]
  simp only [List.map_cons, List.map_nil, joined_jl, digs]
  simp only [jl, List.append_assoc, List.cons_append]
  rfl
theorem dn_one {b : Array UInt8} (h : b ∈ sixB) (bs : List Bool) (ns : List (Array UInt8)) (hl : ns.length < bs.length) (hg : bs.getD ns.length false = dash b) : (KBw.bInts (undash b)).foldl (dnStep bs) (ns, #[]) = (ns ++ [b], #[]) := by
  have hd : decide (ns.length < bs.length) = true := decide_eq_true hl
  rcases six_cases h with rfl | rfl | rfl | rfl | rfl | rfl
  · show dnStep bs (ns, #[]) 66 = _
    unfold dnStep
    rw [if_pos (by decide), hg, hd]
    rfl
  · show dnStep bs (ns, #[]) 48 = _
    unfold dnStep
    rw [if_pos (by decide), hg, hd]
    rfl
  · show dnStep bs (ns, #[]) 65 = _
    unfold dnStep
    rw [if_pos (by decide), hg, hd]
    rfl
  · show dnStep bs (ns, #[]) 60 = _
    unfold dnStep
    rw [if_pos (by decide), hg, hd]
    rfl
  · show dnStep bs (dnStep bs (ns, #[]) 37) 53 = _
    unfold dnStep
    rw [if_neg (by decide : ¬ (48 : Int) ≤ 37), if_pos (by decide), hg, hd]
    rfl
  · show dnStep bs (ns, #[]) 65 = _
    unfold dnStep
    rw [if_pos (by decide), hg, hd]
    rfl
theorem bInts_app (a b : Array UInt8) : KBw.bInts (a ++ b) = KBw.bInts a ++ KBw.bInts b := by
  unfold KBw.bInts
  rw [Array.toList_append, List.map_append]
theorem dn_names {b0 b1 b2 b3 : Array UInt8} (h0 : b0 ∈ sixB) (h1 : b1 ∈ sixB) (h2 : b2 ∈ sixB) (h3 : b3 ∈ sixB) : dnAll (joined #[] ([b0, b1, b2, b3].map undash)) [dash b0, dash b1, dash b2, dash b3] = ([b0, b1, b2, b3], #[]) := by
  show dnPre _ _ _ = _
  unfold dnPre
  rw [List.take_length, List.map_cons, List.map_cons, List.map_cons, List.map_cons, List.map_nil, join0, bInts_app, bInts_app, bInts_app, List.foldl_append, List.foldl_append, List.foldl_append,
    dn_one h0 [dash b0, dash b1, dash b2, dash b3] [] (show (0 : Nat) < 4 by decide) rfl]
  show List.foldl _ (List.foldl _ (List.foldl _ ([b0], #[]) _) _) _ = _
  rw [dn_one h1 [dash b0, dash b1, dash b2, dash b3] [b0] (show (1 : Nat) < 4 by decide) rfl]
  show List.foldl _ (List.foldl _ ([b0, b1], #[]) _) _ = _
  rw [dn_one h2 [dash b0, dash b1, dash b2, dash b3] [b0, b1] (show (2 : Nat) < 4 by decide) rfl]
  show List.foldl _ ([b0, b1, b2], #[]) _ = _
  rw [dn_one h3 [dash b0, dash b1, dash b2, dash b3] [b0, b1, b2] (show (3 : Nat) < 4 by decide) rfl]
  rfl
theorem bt_bits (a b c d e : Bool) : bt (bit4 a b c d + (bif e then 16 else 0)) 0 = a ∧ bt (bit4 a b c d + (bif e then 16 else 0)) 1 = b ∧ bt (bit4 a b c d + (bif e then 16 else 0)) 2 = c ∧ bt (bit4 a b c d + (bif e then 16 else 0)) 3 = d := by
  cases a <;> cases b <;> cases c <;> cases d <;> cases e <;> decide
theorem bt_bit1 (a : Bool) : bt (bit1 a) 0 = a := by cases a <;> decide
theorem bit4_in (a b c d e : Bool) : 64 ≤ bit4 a b c d + (bif e then 16 else 0) ∧ bit4 a b c d + (bif e then 16 else 0) ≤ 126 := by
  cases a <;> cases b <;> cases c <;> cases d <;> cases e <;> decide
theorem bit1_in (a : Bool) : 64 ≤ bit1 a ∧ bit1 a ≤ 126 := by cases a <;> decide
end
section
open PySem.Builtin.Bytes (joined)
theorem ba_toList (x : Int) : (byteArr [x]).toList = [x.toNat.toUInt8] := rfl
theorem off_ba {x : Int} (h0 : 0 ≤ x) (h1 : x < 256) (h : x ≠ 59) : (59 : UInt8) ∉ (byteArr [x]).toList := by
  rw [ba_toList, List.mem_singleton]
  intro e
  have := congrArg UInt8.toNat e
  rw [Nat.toUInt8_eq, UInt8.toNat_ofNat'] at this
  have e2 : (59 : UInt8).toNat = 59 := rfl
  rw [e2] at this
  omega
theorem off_app {a b : Array UInt8} (h : (59 : UInt8) ∉ a.toList) (k : (59 : UInt8) ∉ b.toList) : (59 : UInt8) ∉ (a ++ b).toList := by
  rw [Array.toList_append, List.mem_append]
  exact fun h' => h'.elim h k
theorem off_six {b : Array UInt8} (h : b ∈ sixB) : (59 : UInt8) ∉ (undash b).toList := by
  rcases six_cases h with rfl | rfl | rfl | rfl | rfl | rfl <;> decide
theorem off_names {b0 b1 b2 b3 : Array UInt8} (h0 : b0 ∈ sixB) (h1 : b1 ∈ sixB) (h2 : b2 ∈ sixB) (h3 : b3 ∈ sixB) : (59 : UInt8) ∉ (joined #[] ([b0, b1, b2, b3].map undash)).toList := by
  rw [List.map_cons, List.map_cons, List.map_cons, List.map_cons, List.map_nil, join0]
  exact off_app (off_app (off_app (off_six h0) (off_six h1)) (off_six h2)) (off_six h3)
theorem size_names {b0 b1 b2 b3 : Array UInt8} (h0 : b0 ∈ sixB) (h1 : b1 ∈ sixB) (h2 : b2 ∈ sixB) (h3 : b3 ∈ sixB) : (joined #[] ([b0, b1, b2, b3].map undash)).size ≤ 8 := by
  rw [List.map_cons, List.map_cons, List.map_cons, List.map_cons, List.map_nil, join0]
  have := undash_size h0
  have := undash_size h1
  have := undash_size h2
  have := undash_size h3
  simp only [Array.size_append]
  omega
theorem bit4_rng (a b c d : Bool) : 64 ≤ bit4 a b c d ∧ bit4 a b c d ≤ 79 := by cases a <;> cases b <;> cases c <;> cases d <;> decide
theorem law_off {σ : SV} {r c : Int} (G : Good σ r c) (hr : r ≤ 9) (hc : c ≤ 9) : ∀ p ∈ lawF σ, (59 : UInt8) ∉ p.toList := by
  have g1 := G.row0
  have g2 := G.row1
  have g3 := G.col0
  have g4 := G.col1
  have g5 := G.lf0
  have g6 := G.lf1
  have g7 := G.rt0
  have g8 := G.rt1
  have b4 : ∀ a b c d : Bool, (59 : UInt8) ∉ (byteArr [bit4 a b c d]).toList := fun a b c d => by
    have := bit4_rng a b c d
    exact off_ba (by omega) (by omega) (by omega)
  unfold lawF
  refine List.forall_mem_cons.mpr ⟨off_ba (by omega) (by omega) (by omega), List.forall_mem_cons.mpr ⟨off_ba (by omega) (by omega) (by omega), List.forall_mem_cons.mpr ⟨by decide, List.forall_mem_cons.mpr ⟨b4 _ _ _ _, List.forall_mem_cons.mpr ⟨?_, List.forall_mem_cons.mpr ⟨b4 _ _ _ _, List.forall_mem_cons.mpr ⟨off_ba (by omega) (by omega) (by omega), List.forall_mem_cons.mpr ⟨off_ba (by omega) (by omega) (by omega), List.forall_mem_cons.mpr ⟨b4 _ _ _ _, List.forall_mem_cons.mpr ⟨off_names G.b0 G.b1 G.b2 G.b3, List.forall_mem_nil _⟩⟩⟩⟩⟩⟩⟩⟩⟩⟩
  have := bit1_in σ.gd
  exact off_ba (by omega) (by omega) (by omega)
theorem law_size {σ : SV} {r c : Int} (G : Good σ r c) : ∀ p ∈ lawF σ, p.size ≤ 60 := by
  have e : ∀ x : Int, (byteArr [x]).size ≤ 60 := fun x => by rw [byteArr_size]; exact Nat.le_of_ble_eq_true rfl
  unfold lawF
  exact List.forall_mem_cons.mpr ⟨e _, List.forall_mem_cons.mpr ⟨e _, List.forall_mem_cons.mpr ⟨by decide, List.forall_mem_cons.mpr ⟨e _, List.forall_mem_cons.mpr ⟨e _, List.forall_mem_cons.mpr ⟨e _, List.forall_mem_cons.mpr ⟨e _, List.forall_mem_cons.mpr ⟨e _, List.forall_mem_cons.mpr ⟨e _, List.forall_mem_cons.mpr ⟨Nat.le_trans (size_names G.b0 G.b1 G.b2 G.b3) (by decide), List.forall_mem_nil _⟩⟩⟩⟩⟩⟩⟩⟩⟩⟩
theorem cuts_of {ps : List (Array UInt8)} (h : ps ≠ []) (off : ∀ p ∈ ps, (59 : UInt8) ∉ p.toList) (hs : ∀ p ∈ ps, p.size ≤ 64) (hl : ps.length ≤ 10) : Cuts (joined #[59] ps) 59 ps :=
  ⟨h, off, rfl, fun p hp => Nat.le_trans (hs p hp) (Nat.le_of_ble_eq_true rfl), Nat.le_trans hl (Nat.le_of_ble_eq_true rfl)⟩
theorem all_set {P : Array UInt8 → Prop} {fs : List (Array UInt8)} {i : Nat} {x : Array UInt8} (h : ∀ p ∈ fs, P p) (hx : P x) : ∀ p ∈ fs.set i x, P p := fun p hp =>
  (List.mem_or_eq_of_mem_set hp).elim (h p) fun e => e ▸ hx
section
variable {w : World} {p : Program} {loose : List Str} {mean : ExcName → Option Value} {mg mb : Str → Option Value}
noncomputable abbrev CfNone (w : World) (p : Program) (loose : List Str) (mean : ExcName → Option Value) (mg mb : Str → Option Value) (b : Array UInt8) : Prop := ∀ t, Cr w p loose mean mg mb 10 145 [.bytes b t] [] (fun v l => v = .none ∧ l = [])
theorem none_of {b f0 f1 f2 f3 f4 f5 f6 f7 f8 f9 : Array UInt8} {o0 o1 o2 o6 o7 : Option Int} {o3 o4 o5 o8 : Option (List Bool)} (C : Cuts b 59 [f0, f1, f2, f3, f4, f5, f6, f7, f8, f9])
    (n0 : NumF f0 o0) (n1 : NumF f1 o1) (n2 : NumF f2 o2) (n3 : OctF 4 f3 o3) (n4 : OctF 1 f4 o4) (n5 : OctF 4 f5 o5) (n6 : NumF f6 o6) (n7 : NumF f7 o7) (n8 : OctF 4 f8 o8) (n9 : f9.size ≤ 64) (h : ¬ CfOk f9 o0 o1 o2 o6 o7 o3 o4 o5 o8) : CfNone w p loose mean mg mb b := fun t =>
  Cr.mono (cf_ok w p loose mean mg mb b t f0 f1 f2 f3 f4 f5 f6 f7 f8 f9 o0 o1 o2 o6 o7 o3 o4 o5 o8 C n0 n1 n2 n3 n4 n5 n6 n7 n8 n9) fun _ _ P => P.elim (fun P => P.2) fun P => absurd P.1 h
variable {σ : SV} {r c : Int}
structure LawRd (σ : SV) : Prop where
  n0 : NumF (byteArr [48 + (σ.row + 1)]) (some (σ.row + 1))
  n1 : NumF (byteArr [48 + (σ.col + 1)]) (some (σ.col + 1))
  n2 : NumF #[49] (some 1)
  n3 : ∀ e : Bool, OctF 4 (byteArr [bit4 (σ.fl.fmod 2 == 1) (decide (0 < σ.fl.fdiv 512)) ((σ.fl.fdiv 8).fmod 2 == 1) ((σ.fl.fdiv 32).fmod 2 == 1) + (bif e then 16 else 0)]) (some [σ.fl.fmod 2 == 1, decide (0 < σ.fl.fdiv 512), (σ.fl.fdiv 8).fmod 2 == 1, (σ.fl.fdiv 32).fmod 2 == 1])
  n4 : OctF 1 (byteArr [bit1 σ.gd]) (some [σ.gd])
  n5 : OctF 4 (byteArr [bit4 σ.og (decide (σ.sh = some 2)) (decide (σ.sh = some 3)) σ.wt]) (some [σ.og, decide (σ.sh = some 2), decide (σ.sh = some 3), σ.wt])
  n6 : NumF (byteArr [48 + σ.lf]) (some σ.lf)
  n7 : NumF (byteArr [48 + σ.rt]) (some σ.rt)
  n8 : OctF 4 (byteArr [bit4 (dash σ.b0) (dash σ.b1) (dash σ.b2) (dash σ.b3)]) (some [dash σ.b0, dash σ.b1, dash σ.b2, dash σ.b3])
theorem oct4 (a b c d e : Bool) : OctF 4 (byteArr [bit4 a b c d + (bif e then 16 else 0)]) (some [a, b, c, d]) := by
  have h := OctF.ok4 _ (bit4_in a b c d e).1 (bit4_in a b c d e).2
  obtain ⟨e1, e2, e3, e4⟩ := bt_bits a b c d e
  rwa [e1, e2, e3, e4] at h
theorem oct4' (a b c d : Bool) : OctF 4 (byteArr [bit4 a b c d]) (some [a, b, c, d]) := by
  have h := oct4 a b c d false
  rwa [cond_false, Int.add_zero] at h
theorem oct1 (a : Bool) : OctF 1 (byteArr [bit1 a]) (some [a]) := by
  have h := OctF.ok1 _ (bit1_in a).1 (bit1_in a).2
  rwa [bt_bit1] at h
theorem law_rd (G : Good σ r c) (hr : r ≤ 9) (hc : c ≤ 9) : LawRd σ := by
  have g1 := G.row0
  have g2 := G.row1
  have g3 := G.col0
  have g4 := G.col1
  have g5 := G.lf0
  have g6 := G.lf1
  have g7 := G.rt0
  have g8 := G.rt1
  exact ⟨.dig _ (by omega) (by omega), .dig _ (by omega) (by omega), .dig 1 (by decide) (by decide), oct4 _ _ _ _, oct1 _, oct4' _ _ _ _, .dig _ (by omega) (by omega), .dig _ (by omega) (by omega), oct4' _ _ _ _⟩
end
end
section
open PySem.Builtin.Bytes (joined)
section
variable {w : World} {p : Program} {loose : List Str} {mean : ExcName → Option Value} {mg mb : Str → Option Value} {σ : SV} {r c : Int}
theorem spat_off {fs : List (Array UInt8)} {i : Nat} {x : Array UInt8} (h : SpAt fs i x) (hz : ∀ f ∈ fs, (59 : UInt8) ∉ f.toList) : (59 : UInt8) ∉ x.toList := by
  cases h with
  | one f e => exact off_app (hz f (List.mem_of_getElem? e)) (by decide)
  | two => decide
  | three i f x _ e h =>
    rcases h with rfl | rfl | rfl | rfl
    · decide
    · decide
    · exact off_app (hz f (List.mem_of_getElem? e)) (by decide)
    · decide
  | four i x _ h => rcases h with rfl | rfl | rfl <;> decide
  | five i x _ h => rcases h with rfl | rfl | rfl <;> decide
theorem size_ba (x : Int) : (byteArr [x]).size = 1 := rfl
theorem oct_bad {m : Int} {f x : Array UInt8} (hf : f.size = 1) (h : x = #[63] ∨ x = #[] ∨ x = f ++ #[64] ∨ x = #[127]) : OctF m x none := by
  rcases h with rfl | rfl | rfl | rfl
  · exact .q m
  · exact .len m _ (by decide) (by decide)
  · have e : (f ++ #[64]).size = 2 := by rw [Array.size_append, hf]; rfl
    exact .len m _ (by rw [e]; decide) (by rw [e]; decide)
  · exact .d m
theorem num_bad {x : Array UInt8} (h : x = #[] ∨ x = #[45, 49] ∨ x = #[120]) : NumF x none := by
  rcases h with rfl | rfl | rfl
  · exact .nil
  · exact .m1
  · exact .x
theorem dn_longer {b0 b1 b2 b3 : Array UInt8} (h0 : b0 ∈ sixB) (h1 : b1 ∈ sixB) (h2 : b2 ∈ sixB) (h3 : b3 ∈ sixB) : (dnAll (joined #[] ([b0, b1, b2, b3].map undash) ++ #[66]) [dash b0, dash b1, dash b2, dash b3]).1.length = 5 := by
  have e := dn_names h0 h1 h2 h3
  have e2 : dnPre (joined #[] ([b0, b1, b2, b3].map undash)) [dash b0, dash b1, dash b2, dash b3] (KBw.bInts (joined #[] ([b0, b1, b2, b3].map undash))).length = ([b0, b1, b2, b3], #[]) := e
  unfold dnPre at e2
  rw [List.take_length] at e2
  show (dnPre _ _ _).1.length = 5
  unfold dnPre
  rw [List.take_length, bInts_app, List.foldl_append, e2]
  rfl
theorem law_spoilt (G : Good σ r c) (hr : r ≤ 9) (hc : c ≤ 9) {bb : Array UInt8} (h : Spoilt (lawF σ) bb) : CfNone w p loose mean mg mb bb := by
  have off := law_off G hr hc
  have sz : ∀ p ∈ lawF σ, p.size ≤ 64 := fun p hp => Nat.le_trans (law_size G p hp) (by decide)
  have len : (lawF σ).length = 10 := rfl
  cases h with
  | nine => exact fun t => cf_len w p loose mean mg mb _ t _ (cuts_of (by intro e; cases e) (fun p hp => off p (List.mem_of_mem_take hp)) (fun p hp => sz p (List.mem_of_mem_take hp)) (Nat.le_of_ble_eq_true rfl)) (Nat.le_of_ble_eq_true rfl) (Nat.ne_of_beq_eq_false rfl)
  | out => exact fun t => cf_len w p loose mean mg mb _ t _ (cuts_of (by intro e; cases e) (fun p hp => (List.mem_append.mp hp).elim (fun hp => off p (List.mem_of_mem_take hp)) fun hp => off p (List.mem_of_mem_drop hp)) (fun p hp => (List.mem_append.mp hp).elim (fun hp => sz p (List.mem_of_mem_take hp)) fun hp => sz p (List.mem_of_mem_drop hp)) (Nat.le_of_ble_eq_true rfl)) (Nat.le_of_ble_eq_true rfl) (Nat.ne_of_beq_eq_false rfl)
  | none => exact fun t => cf_len w p loose mean mg mb #[] t [#[]] (cuts_of (ps := [#[]]) (by decide) (by decide) (by decide) (by decide)) (by decide) (by decide)
  | one i x h =>
    have R := law_rd G hr hc
    have n3 := R.n3 false
    rw [cond_false, Int.add_zero] at n3
    have nz := Nat.le_trans (size_names G.b0 G.b1 G.b2 G.b3) (by decide : 8 ≤ 64)
    have C : Cuts (joined #[59] ((lawF σ).set i x)) 59 ((lawF σ).set i x) := by
      refine cuts_of (fun e => ?_) (all_set off (spat_off h off)) (all_set sz (Nat.le_trans (h.size (law_size G)) (by decide))) (by rw [List.length_set]; exact Nat.le_of_eq len)
      have := congrArg List.length e
      rw [List.length_set, len] at this
      cases this
    cases h with
    | one f e =>
      have e' : some (joined #[] ([σ.b0, σ.b1, σ.b2, σ.b3].map undash)) = some f := e
      cases e'
      refine none_of C R.n0 R.n1 R.n2 n3 R.n4 R.n5 R.n6 R.n7 R.n8 ?_ fun h => ?_
      · rw [Array.size_append]
        have := size_names G.b0 G.b1 G.b2 G.b3
        exact Nat.le_trans (Nat.add_le_add_right this _) (by decide)
      · have := (h.names _ rfl).1
        rw [dn_longer G.b0 G.b1 G.b2 G.b3] at this
        cases this
    | two =>
      refine none_of C R.n0 R.n1 R.n2 n3 R.n4 R.n5 R.n6 R.n7 R.n8 (by decide) fun h => ?_
      have := (h.names _ rfl).1
      exact absurd this (by
        show ¬ (dnPre _ _ _).1.length = 4
        have : ∀ a b c d : Bool, ¬ (dnPre #[66, 66, 66] [a, b, c, d] 3).1.length = 4 := by decide
        exact this _ _ _ _)
    | three i f x hi e hx =>
      rcases hi with rfl | rfl | rfl | rfl
      · cases e
        exact none_of C R.n0 R.n1 R.n2 (oct_bad (size_ba _) hx) R.n4 R.n5 R.n6 R.n7 R.n8 nz fun h => absurd rfl h.some.2.2.2.1
      · cases e
        exact none_of C R.n0 R.n1 R.n2 n3 (oct_bad (size_ba _) hx) R.n5 R.n6 R.n7 R.n8 nz fun h => absurd rfl h.some.2.2.2.2.1
      · cases e
        exact none_of C R.n0 R.n1 R.n2 n3 R.n4 (oct_bad (size_ba _) hx) R.n6 R.n7 R.n8 nz fun h => absurd rfl h.some.2.2.2.2.2.1
      · cases e
        exact none_of C R.n0 R.n1 R.n2 n3 R.n4 R.n5 R.n6 R.n7 (oct_bad (size_ba _) hx) nz fun h => absurd rfl h.some.2.2.2.2.2.2.2.2
    | four i x hi hx =>
      have n4 : NumF #[52] (some 4) := .dig 4 (by decide) (by decide)
      rcases hi with rfl | rfl
      · rcases hx with rfl | rfl | rfl
        · exact none_of C R.n0 R.n1 R.n2 n3 R.n4 R.n5 n4 R.n7 R.n8 nz fun h => absurd (h.left 4 rfl) (by decide)
        · exact none_of C R.n0 R.n1 R.n2 n3 R.n4 R.n5 .nil R.n7 R.n8 nz fun h => absurd rfl h.some.2.2.2.2.2.2.1
        · exact none_of C R.n0 R.n1 R.n2 n3 R.n4 R.n5 .x R.n7 R.n8 nz fun h => absurd rfl h.some.2.2.2.2.2.2.1
      · rcases hx with rfl | rfl | rfl
        · exact none_of C R.n0 R.n1 R.n2 n3 R.n4 R.n5 R.n6 n4 R.n8 nz fun h => absurd (h.right 4 rfl) (by decide)
        · exact none_of C R.n0 R.n1 R.n2 n3 R.n4 R.n5 R.n6 .nil R.n8 nz fun h => absurd rfl h.some.2.2.2.2.2.2.2.1
        · exact none_of C R.n0 R.n1 R.n2 n3 R.n4 R.n5 R.n6 .x R.n8 nz fun h => absurd rfl h.some.2.2.2.2.2.2.2.1
    | five i x hi hx =>
      rcases hi with rfl | rfl | rfl
      · exact none_of C (num_bad hx) R.n1 R.n2 n3 R.n4 R.n5 R.n6 R.n7 R.n8 nz fun h => absurd rfl h.some.1
      · exact none_of C R.n0 (num_bad hx) R.n2 n3 R.n4 R.n5 R.n6 R.n7 R.n8 nz fun h => absurd rfl h.some.2.1
      · exact none_of C R.n0 R.n1 (num_bad hx) n3 R.n4 R.n5 R.n6 R.n7 R.n8 nz fun h => absurd rfl h.some.2.2.1
end
end
section
open PySem.Builtin.Bytes (joined)
noncomputable abbrev lawE (σ : SV) (e : Bool) : List (Array UInt8) := (lawF σ).set 3 (byteArr [bit4 (σ.fl.fmod 2 == 1) (decide (0 < σ.fl.fdiv 512)) ((σ.fl.fdiv 8).fmod 2 == 1) ((σ.fl.fdiv 32).fmod 2 == 1) + (bif e then 16 else 0)])
theorem map4 {a b c d : Array UInt8} : ∀ {its : List (Array UInt8 × Tok)}, its.map (·.1) = [a, b, c, d] → ∃ u0 u1 u2 u3, its = [(a, u0), (b, u1), (c, u2), (d, u3)] := fun {its} h => by
  rcases its with _ | ⟨⟨c0, u0⟩, _ | ⟨⟨c1, u1⟩, _ | ⟨⟨c2, u2⟩, _ | ⟨⟨c3, u3⟩, _ | ⟨x, r⟩⟩⟩⟩⟩
  · cases h
  · cases h
  · cases h
  · cases h
  · cases h
    exact ⟨_, _, _, _, rfl⟩
  · cases h
theorem some_eq {α : Type} {a b : α} (h : some a = some b) : b = a := (Option.some.inj h).symm
theorem read_rc {f9 : Array UInt8} {x0 x1 x2 x6 x7 : Int} {a0 a1 a2 a3 g0 p0 p1 p2 p3 : Bool} {bs8 : List Bool} {n0 n1 n2 n3 : Array UInt8} {v : Value} {l : Led} (dn : (dnAll f9 bs8).1 = [n0, n1, n2, n3])
    (P : CfRead f9 (some x0) (some x1) (some x2) (some x6) (some x7) (some [a0, a1, a2, a3]) (some [g0]) (some [p0, p1, p2, p3]) (some bs8) v l) : RcRead x0 x1 x2 x6 x7 a0 a1 a2 a3 g0 p0 p1 p2 p3 bs8 n0 n1 n2 n3 v l := by
  obtain ⟨y0, y1, y2, y6, y7, s3, s4, s5, s8, e0, e1, e2, e6, e7, e3, e4, e5, e8, d, q3, q4, q5, q8, nm, t0, t1, t2, t6, t7, k, k3, k4, k5, kn, its, ev, el, ei⟩ := P
  replace e0 := some_eq e0
  replace e1 := some_eq e1
  replace e2 := some_eq e2
  replace e6 := some_eq e6
  replace e7 := some_eq e7
  replace e3 := some_eq e3
  replace e4 := some_eq e4
  replace e5 := some_eq e5
  replace e8 := some_eq e8
  rw [e8, dn] at ei
  obtain ⟨u0, u1, u2, u3, ei⟩ := map4 ei
  rw [e0, e1, e2, e6, e7, e3, e4, e5, ei] at el
  exact ⟨d, q3, q4, q5, q8, nm, t0, t1, t2, t6, t7, u0, u1, u2, u3, k, k3, k4, k5, kn, ev, el⟩
section
variable {w : World} {p : Program} {loose : List Str} {mean : ExcName → Option Value} {mg mb : Str → Option Value} {σ : SV} {r c : Int}
theorem law_read (G : Good σ r c) (hr : r ≤ 9) (hc : c ≤ 9) (e : Bool) : ∀ t, Cr w p loose mean mg mb 10 145 [.bytes (joined #[59] (lawE σ e)) t] []
    (RcRead (σ.row + 1) (σ.col + 1) 1 σ.lf σ.rt (σ.fl.fmod 2 == 1) (decide (0 < σ.fl.fdiv 512)) ((σ.fl.fdiv 8).fmod 2 == 1) ((σ.fl.fdiv 32).fmod 2 == 1) σ.gd σ.og (decide (σ.sh = some 2)) (decide (σ.sh = some 3)) σ.wt [dash σ.b0, dash σ.b1, dash σ.b2, dash σ.b3] σ.b0 σ.b1 σ.b2 σ.b3) := by
  have off := law_off G hr hc
  have sz : ∀ p ∈ lawF σ, p.size ≤ 64 := fun p hp => Nat.le_trans (law_size G p hp) (by decide)
  have R := law_rd G hr hc
  have b := bit4_in (σ.fl.fmod 2 == 1) (decide (0 < σ.fl.fdiv 512)) ((σ.fl.fdiv 8).fmod 2 == 1) ((σ.fl.fdiv 32).fmod 2 == 1) e
  have C : Cuts (joined #[59] (lawE σ e)) 59 (lawE σ e) := cuts_of (by intro e; cases e) (all_set off (off_ba (by omega) (by omega) (by omega))) (all_set sz (by rw [size_ba]; decide)) (by rw [List.length_set]; exact Nat.le_of_ble_eq_true rfl)
  have dn := dn_names G.b0 G.b1 G.b2 G.b3
  have ok : CfOk (joined #[] ([σ.b0, σ.b1, σ.b2, σ.b3].map undash)) (some (σ.row + 1)) (some (σ.col + 1)) (some 1) (some σ.lf) (some σ.rt) (some [σ.fl.fmod 2 == 1, decide (0 < σ.fl.fdiv 512), (σ.fl.fdiv 8).fmod 2 == 1, (σ.fl.fdiv 32).fmod 2 == 1]) (some [σ.gd]) (some [σ.og, decide (σ.sh = some 2), decide (σ.sh = some 3), σ.wt]) (some [dash σ.b0, dash σ.b1, dash σ.b2, dash σ.b3]) :=
    ⟨⟨Option.some_ne_none _, Option.some_ne_none _, Option.some_ne_none _, Option.some_ne_none _, Option.some_ne_none _, Option.some_ne_none _, Option.some_ne_none _, Option.some_ne_none _, Option.some_ne_none _⟩,
      fun x h => by cases h; have := G.lf1; omega, fun x h => by cases h; have := G.rt1; omega, fun bs h => by cases h; rw [dn]; exact ⟨rfl, rfl⟩⟩
  refine fun t => Cr.mono (cf_ok w p loose mean mg mb _ t _ _ _ _ _ _ _ _ _ _ _ _ _ _ _ _ _ _ _ C R.n0 R.n1 R.n2 (R.n3 e) R.n4 R.n5 R.n6 R.n7 R.n8 (Nat.le_trans (size_names G.b0 G.b1 G.b2 G.b3) (by decide))) fun v l P => ?_
  rcases P with P | P
  · exact absurd ok P.1
  · exact read_rc (congrArg Prod.fst dn) P.2
end
end
section
section
variable {prog : Program} {w : World} {A : Around} {E : Value → Shared → Prop} {s : Shared} {h₀ : Heap} {L q : Addr} {m : Str → Option Value} {news : Led} {Q : Value → Shared → Prop} {vs : List Value} {ns : List Int}
theorem slice8 {value slice : PySem.Expr} {u : Tok} (F : Fr h₀ L s.heap m) (N : News h₀ L s.heap news) (hl : h₀.IsList q vs.toArray) (hI : IntsAre vs ns) (hn : ns.length ≤ 63)
    (h : ∀ D ws h', Fr h₀ L h' m → News h₀ L h' ((D, W.listOf (List.toArray ws) 0) :: news) → (∀ p ∈ news, p.1 < D) → IntsAre ws (ns.take 8) → Q (.ref D) { s with heap := h' })
    (hs : subscripted slice false (.ref q) (.ref s.heap.objs.size) = operate [.ref s.heap.objs.size, .ref q] (getItem (.ref q) (.ref s.heap.objs.size)) := by with_unfolding_all rfl) (ht : ∀ r, letTemporaryGo value (.ref q) r = pure () := by intro _; with_unfolding_all rfl) :
    wpAny (model prog w) A (subscriptTail value slice (.ref q) (.ref s.heap.objs.size)) Q E { s with heap := s.heap.push { cls := .type "slice", data := .fields #[.none, .int 8 u, .none] } } :=
  kmk_slice_ints F N (Fr.lst F hl) (.none) (.int _ _) hI (kmk_upto (y := 8) hI (by decide)) (List.length_take ..) (fun D ws h' F' N' l1 hw _ _ => h D ws h' F' N' l1 hw) hs ht (kmk_sz hI (Nat.le_trans (m := 63) hn (Nat.le_of_ble_eq_true rfl)))
end
theorem kw_WDeck_0 : True := by
  k_with "z45" => skip
  k_with "my subscriptTail Name Slice ref ref" => ((fail_if_success k_extra "z53"); ((k_here; (rename Fr _ _ _ _ => lF'); (rename News _ _ _ _ => lN'); (rename Heap.IsList _ _ _ => lL'); (rename IntsAre _ _ => lI'); k_dflt (refine slice8 (s := ⟨_, _, _, _, _⟩) lF' lN' lL' lI' (by assumption) ?_); intro D' ws' h' F' N' l1 hI'; (try k_lt l1))))
  trivial
theorem ints_at : ∀ {vs : List Value} {ns : List Int}, IntsAre vs ns → ∀ (i : Nat) (v : Value), vs[i]? = some v → ∃ k t, ns[i]? = some k ∧ v = .int k t
  | _, _, .nil, i, v, h => by cases h
  | _, _, .cons n t r, 0, v, h => by cases h; exact ⟨n, t, rfl, rfl⟩
  | _, _, .cons n t r, i + 1, v, h => ints_at r i v h
theorem ints_of : ∀ {vs : List Value} {ns : List Int}, vs.length = ns.length → (∀ (i : Nat) (v : Value), vs[i]? = some v → ∃ k t, ns[i]? = some k ∧ v = .int k t) → IntsAre vs ns
  | [], [], _, _ => .nil
  | [], _ :: _, h, _ => by cases h
  | _ :: _, [], h, _ => by cases h
  | a :: vs, n :: ns, h, k => by
    obtain ⟨n', t, e, rfl⟩ := k 0 a rfl
    cases e
    exact .cons n t (ints_of (Nat.succ.inj h) fun i v hv => k (i + 1) v hv)
section
variable {prog : Program} {w : World} {A : Around} {h₀ : Heap} {L : Addr} {m : Str → Option Value} {env : Env} {elt : PySem.Expr} {x : Str} {scope : Scope} {cl : List (Str × Addr)} {s : Shared} {S : Led → Prop} {Fin : List Value → Led → Prop} {news : Led}
theorem cx_ints {vs : List Value} {ns : List Int} (f : Int → Int) (hI : IntsAre vs ns)
    (turn : ∀ (k : Int) (t : Tok) I oI C oC D m₂ ys h tk (E' : Value → Shared → Prop), k ∈ ns → LCg.NsObj oC m₂ → m₂ x = some (.int k t) → Fr h₀ L h m → News h₀ L h ((I, oI) :: (C, oC) :: (D, LCg.lst ys) :: news) → LCg.Off3 I C D news → ((@Ne Nat I C) ∧ (@Ne Nat I D) ∧ (@Ne Nat C D)) →
      wpAny (model prog w) A (eval elt (compEnvC scope cl C env)) (LCg.CompEnd h₀ L m { s with heap := h, toks := tk } I oI C oC D (LCg.lst ys) S (fun y news' => CXEl news (fun y => ∃ t, y = .int (f k) t) y news')) E' { s with heap := h, toks := tk })
    (fin : ∀ ys, IntsAre ys (ns.map f) → Fin ys news) : LCg.CompRest prog w A h₀ L m env elt x scope cl s S (fun i v => vs.toArray[i]? = some v) Fin vs.toArray.size 0 [] news := by
  refine cx_list (fun i y => ∃ k t, ns[i]? = some k ∧ y = .int (f k) t) (fun i v I oI C oC D m₂ ys h tk E' hi hC hx F N off ne => ?_) fun ys hys hR => ?_
  · obtain ⟨k, t, hk, rfl⟩ := ints_at hI i v hi
    refine wpAny_mono (turn k t I oI C oC D m₂ ys h tk E' (List.mem_of_getElem? hk) hC hx F N off ne) (fun y s₂ hq => ?_) fun _ _ e => e
    obtain ⟨h', tk', nw, e, F', N', off', hS, hn, t', hy⟩ := hq
    exact ⟨h', tk', nw, e, F', N', off', hS, hn, k, t', hk, hy⟩
  · refine fin ys (ints_of (by rw [hys, hI.length, List.length_map]) fun i v hv => ?_)
    obtain ⟨k, t, h1, h2⟩ := hR i v hv
    exact ⟨f k, t, by rw [List.getElem?_map, h1]; rfl, h2⟩
end
theorem take8 {ns : List Int} {vs : List Value} (h : IntsAre vs (ns.take 8)) : vs.toArray.size ≤ sizeLine := by
  rw [List.size_toArray, h.length]
  exact Nat.le_trans (List.length_take_le 8 ns) (Nat.le_of_ble_eq_true rfl)
noncomputable def mixG (a n : Int) : Int := (a * 48271 + n.fmod 2147483629 + 155155).fmod 2147483587
theorem kw_WDeck_1 : True := by
  k_with "my eval ListComp" => ((fail_if_success k_extra "z53"); ((k_here; k_dflt (refine LCg.ListComp_U (F₀ := by k_asm) (by rfl) (by decide) (by rfl) (by decide) (by rfl) ?_))))
  k_with "my CompSrc" => ((fail_if_success k_extra "z53"); ((k_here; (rename IntsAre _ _ => lI'); k_dflt (refine LCg.CompSrc.ledger (by rfl) (by k_asm) (by k_asm) (by k_mem) (take8 lI') ?_; intro g'; (refine cx_ints (fun x => x) lI' (fun k' t' I' oI' C' oC' D' m' ys' h' tk' E' hv' hC' hx' F' N' off' ne' => ?_) ?_); (all_goals (try (simp only [LCg.Off3, and_true] at off'))); kcf_last))))
  k_with "my CompEnd" => ((fail_if_success k_extra "z53"); ((k_here; k_dflt (refine cx_end (by assumption) (by assumption) (by kcf_all) (by first | assumption | (simp only [LCg.Off3, and_true]; done) | (simp only [LCg.Off3, and_true]; assumption)) (by first | lcg_src | assumption | exact True.intro) ⟨_, rfl⟩))))
  k_with "my exec For Name Name cons nil" => ((fail_if_success k_extra "z53"); ((k_here; (rename Fr _ _ _ _ => lF'); (with_unfolding_all refine' For_invVF lF' ?k1_193 ?k2_193 ?_; (case k1_193 => exact rfl); (case k2_193 => exact rfl); k_whole))))
  k_with "my pyIter ref" => ((fail_if_success k_extra "z53"); ((k_here; (with_reducible show wpAny _ _ (pyIter (Value.ref _)) (fun it s₂ => LoopAtV _ _ _ _ _ _ _ _ _ it s₂) _ _); (rename Fr _ _ _ _ => lF'); (rename News _ _ _ _ => lN'); (rename IntsAre _ _ => lI'); (with_unfolding_all refine iter_acc1L (y := Str.ofString "mixed") mixG (by decide) (by rfl) (by k_mem) lI' lF' lN' ⟨_, by rfl⟩ (fun n' t' a' ta' h' tk' own' hmem' hoff' F' N' => ?_) (fun u' t' h' tk' F' N' => ?_)); (all_goals (try clear lF' lN')))))
  k_with "my InvEndN" => ((fail_if_success k_extra "z53"); ((k_dflt ((refine ⟨_, _, _, _, _, rfl, by k_asm, by k_asm, fun p hp => List.mem_append_left _ hp, fun p hp => List.mem_append_right _ hp, rfl, rfl, ⟨_, rfl⟩, ?_⟩); intro z h1 h2; simp only [if_neg h1, if_neg h2]))))
  trivial
section
variable {prog : Program} {w : World} {A : Around} {E : Value → Shared → Prop} {s : Shared} {h₀ : Heap} {L q : Addr} {m : Str → Option Value} {news : Led} {Q : Value → Shared → Prop} {vs : List Value} {ns : List Int} {n : Nat}
theorem slice_rev {value slice : PySem.Expr} {u : Tok} {ops : List Value} (F : Fr h₀ L s.heap m) (N : News h₀ L s.heap news) (hm : (q, W.listOf (List.toArray vs) n) ∈ news) (hI : IntsAre vs ns) (hn : ns.length ≤ 8)
    (h : ∀ D ws ks h', Fr h₀ L h' m → News h₀ L h' ((D, W.listOf (List.toArray ws) 0) :: news) → (∀ p ∈ news, p.1 < D) → IntsAre ws ks → ks.length ≤ 8 → Q (.ref D) { s with heap := h' })
    (hs : subscripted slice false (.ref q) (.ref s.heap.objs.size) = operate ops (getItem (.ref q) (.ref s.heap.objs.size)) := by with_unfolding_all rfl) (ht : ∀ r, letTemporaryGo value (.ref q) r = pure () := by intro _; with_unfolding_all rfl) :
    wpAny (model prog w) A (subscriptTail value slice (.ref q) (.ref s.heap.objs.size)) Q E { s with heap := s.heap.push { cls := .type "slice", data := .fields #[.none, .none, .int (-1) u] } } := by
  have hp := hI.pick none none (some (-1))
  have hsz : (slicePick vs.toArray none none (some (-1))).toList.length ≤ 8 := by
    have t := slicePick_size_le vs.toArray none none (some (-1))
    have e : vs.toArray.size = ns.length := by rw [List.size_toArray]; exact hI.length
    exact Nat.le_trans t (e ▸ hn)
  refine kmk_slice3_lit F N (News.isList N hm) .none .none (.int _ _) (by decide) rfl (fun D h' F' N' l1 => h D _ _ h' F' N' l1 hp (hp.length ▸ hsz)) hs ht ?_
  rw [List.size_toArray, hI.length]
  exact Nat.le_trans hn (Nat.le_of_ble_eq_true rfl)
end
theorem take8_len {ns : List Int} : ((ns.take 8).map fun x => x).length ≤ 8 := by
  rw [List.length_map]
  exact List.length_take_le 8 ns
theorem kw_WDeck_2 : True := by
  k_with "my subscriptTail Name Slice ref ref" => ((fail_if_success k_extra "z53"); ((k_here; (with_reducible show wpAny _ _ (subscriptTail _ (PySem.Expr.Slice _ _ (some _) _) (Value.ref _) (Value.ref _)) _ _ _); (rename Fr _ _ _ _ => lF'); (rename News _ _ _ _ => lN'); (rename IntsAre _ _ => lI'); k_dflt (refine slice_rev (s := ⟨_, _, _, _, _⟩) lF' lN' (by k_mem) lI' take8_len ?_); intro D' ws' ks' h' F' N' l1 hI' hl'; (try k_lt l1))))
  trivial
theorem mix_in : ∀ (l : List Int) (a : Int), 0 ≤ a ∧ a < 2147483648 → 0 ≤ l.foldl mixG a ∧ l.foldl mixG a < 2147483648
  | [], _, h => h
  | n :: l, a, _ => mix_in l (mixG a n) ⟨by unfold mixG; exact Int.fmod_nonneg_of_pos _ (by decide), by unfold mixG; exact Int.lt_trans (Int.fmod_lt_of_pos _ (by decide)) (by decide)⟩
set_option maxHeartbeats 1000000 in
theorem deck_new {q : Addr} {vs : List Value} {ns : List Int} {w : World} {p : Program} {loose : List Str} {mean : ExcName → Option Value} {mg mb : Str → Option Value} {news : Led} {dp un : Nat} {gd : Option (List Code)} {cn : Str} {cs : Scope} {a : Addr} {ccd : Value} {cl : List (Str × Addr)} {outer : List Env} {A₀ : Around} {base h₀ : Heap} {L : Addr} {m : Str → Option Value} {s : Shared} {Q E : Value → Shared → Prop} (B : Below A₀ base outer h₀) (F : Fr h₀ L s.heap m) (X : (KK w.params).In h₀) (N : News h₀ L s.heap news) (T : Top p loose mean mg mb h₀) (hk : cs.kind = .function) (hL : base.IsList q vs.toArray) (hI : IntsAre vs ns) (hn : ns.length ≤ 63) (hd : dp + 4 < recursionLimit) (hu : un + 100 * 4 < cLine)
    (r : ∀ d c od oc, Deck w c 0 od oc → @LT.lt Nat _ d c → (∀ p ∈ news, p.1 < d) → ∀ h' tk', Fr h₀ L h' m → News h₀ L h' ((d, od) :: (c, oc) :: news) → Q ( .ref d) { s with heap := h', toks := tk' }) : wpAny (model pw w) (ktrTop dp un gd cn cs L a ccd cl outer) (call (.ref 1280) [.ref q]) Q E s := _root_.id <| by
  refine wpAny_call ?_
  k_dflt cell_enter
  k_extra "my ks2"
  rename Fr _ _ _ _ => kF
  rename News _ _ _ _ => kN
  refine' r _ _ _ _ ?dk ?lt ?fr _ _ kF (List.forall_mem_cons.mpr ⟨kN _ (.tail _ (.head _)), List.forall_mem_cons.mpr ⟨kN _ (.head _), fun p hp => kN p (.tail _ (.tail _ (.tail _ (.tail _ (.tail _ hp)))))⟩⟩)
  case lt => assumption
  case fr => exact fun p hp => Nat.lt_trans ((by assumption : ∀ p ∈ news, p.1 < _) p hp) (by assumption)
  case dk => exact ⟨_, _, _, _, _, _, _, by assumption, rfl, by assumption, by assumption, (mix_in _ _ (by decide)).1, (mix_in _ _ (by decide)).2, Int.le_refl 0, Int.le_refl 0⟩
end
section
noncomputable def flat : List Led → Led
  | [] => []
  | b :: bs => b ++ flat bs
noncomputable def Sep : List Led → Prop
  | [] => True
  | b :: bs => Apart b (flat bs) ∧ Sep bs
inductive At (small : Led) : List Led → List Led → (Led → List Led) → Prop
  | here {bs : List Led} : At small (small :: bs) bs (fun l => l :: bs)
  | tail {b : Led} {bs rs : List Led} {g : Led → List Led} : At small bs rs g → At small (b :: bs) (b :: rs) (fun l => b :: g l)
theorem At.sub {small : Led} {Bs rs : List Led} {g : Led → List Led} (K : At small Bs rs g) : ∀ p ∈ small ++ flat rs, p ∈ flat Bs := by
  induction K with
  | here => exact fun p h => h
  | tail _ ih =>
    intro p h
    rcases List.mem_append.mp h with h | h
    · exact List.mem_append_right _ (ih p (List.mem_append_left _ h))
    · rcases List.mem_append.mp h with h | h
      · exact List.mem_append_left _ h
      · exact List.mem_append_right _ (ih p (List.mem_append_right _ h))
theorem At.out {small l : Led} {Bs rs : List Led} {g : Led → List Led} (K : At small Bs rs g) : ∀ p ∈ flat (g l), p ∈ l ++ flat rs := by
  induction K with
  | here => exact fun p h => h
  | tail _ ih =>
    intro p h
    rcases List.mem_append.mp h with h | h
    · exact List.mem_append_right _ (List.mem_append_left _ h)
    · rcases List.mem_append.mp (ih p h) with h | h
      · exact List.mem_append_left _ h
      · exact List.mem_append_right _ (List.mem_append_right _ h)
theorem Apart.left {a r1 r2 : Led} (h : Apart a (r1 ++ r2)) : Apart a r1 := fun p hp => h p (List.mem_append_left _ hp)
theorem Apart.right {a r1 r2 : Led} (h : Apart a (r1 ++ r2)) : Apart a r2 := fun p hp => h p (List.mem_append_right _ hp)
theorem Apart.both {a r1 r2 : Led} (h : Apart a r1) (k : Apart a r2) : Apart a (r1 ++ r2) := fun p hp => (List.mem_append.mp hp).elim (h p) (k p)
theorem Apart.flip {a b : Led} (h : Apart a b) : Apart b a := fun p hp q hq e => h q hq p hp e.symm
theorem Apart.mono {a b b' : Led} (h : Apart a b) (k : ∀ p ∈ b', p ∈ b) : Apart a b' := fun p hp => h p (k p hp)
theorem At.dis {small : Led} {Bs rs : List Led} {g : Led → List Led} (K : At small Bs rs g) (S : Sep Bs) : Apart small (flat rs) := by
  induction K with
  | here => exact S.1
  | tail K ih => exact Apart.both (Apart.flip (Apart.mono S.1 fun p hp => K.sub p (List.mem_append_left _ hp))) (ih S.2)
theorem At.sep {small l : Led} {Bs rs : List Led} {g : Led → List Led} (K : At small Bs rs g) (S : Sep Bs) (d : Apart l (flat rs)) : Sep (g l) := by
  induction K with
  | here => exact ⟨d, S.2⟩
  | tail K ih => exact ⟨Apart.mono (Apart.both (Apart.flip (Apart.left d)) (Apart.mono S.1 fun p hp => K.sub p (List.mem_append_right _ hp))) fun p hp => K.out p hp, ih S.2 (Apart.right d)⟩
theorem mem_flat {b : Led} {Bs : List Led} (h : b ∈ Bs) : ∀ q ∈ b, q ∈ flat Bs := by
  induction h with
  | head => exact fun q hq => List.mem_append_left _ hq
  | tail _ _ ih => exact fun q hq => List.mem_append_right _ (ih q hq)
theorem sep_one {a : Led} : Sep [a] := And.intro (fun _ h => nomatch h) trivial
theorem At.rest {small : Led} {Bs rs : List Led} {g : Led → List Led} (K : At small Bs rs g) (S : Sep Bs) : Sep rs := by
  induction K with
  | here => exact S.2
  | tail K ih => exact And.intro (Apart.mono S.1 fun p hp => K.sub p (List.mem_append_right _ hp)) (ih S.2)
theorem Apart.app {a b r : Led} (h : Apart a r) (k : Apart b r) : Apart (a ++ b) r := fun p hp q hq => (List.mem_append.mp hq).elim (h p hp q) (k p hp q)
theorem sep_split {a b : Led} {Bs : List Led} (S : Sep ((a ++ b) :: Bs)) (h : Apart a b) : Sep (a :: b :: Bs) :=
  And.intro (Apart.both h fun p hp q hq => S.1 p hp q (List.mem_append_left _ hq)) (And.intro (fun p hp q hq => S.1 p hp q (List.mem_append_right _ hq)) S.2)
section
variable {w : World} {p : Program} {loose : List Str} {mean : ExcName → Option Value} {mg mb : Str → Option Value} {D : Nat} {f : Addr} {vs : List Value} {small news : Led} {P : Value → Led → Prop} {dp un : Nat} {gd : Option (List Code)} {cn : Str} {cs : Scope} {a : Addr} {ccd : Value} {cl : List (Str × Addr)} {outer : List Env} {A₀ : Around} {base h₀ : Heap} {L : Addr} {m : Str → Option Value} {s : Shared} {Q E : Value → Shared → Prop} {Bs rs : List Led} {g : Led → List Led}
theorem Cq.blk (C : Cq w p loose mean mg mb D f vs small P) (K : At small Bs rs g) (S : Sep Bs) (hs : ∀ q ∈ flat Bs, q ∈ news) (B : Below A₀ base outer h₀) (F : Fr h₀ L s.heap m) (X : (KK w.params).In h₀) (N : News h₀ L s.heap news) (T : Top p loose mean mg mb h₀) (hk : cs.kind = .function) (hd : dp + D < recursionLimit) (hu : un + 100 * D < cLine)
    (r : ∀ v l, P v l → Sep (g l) → ∀ h' tk', Fr h₀ L h' m → News h₀ L h' (flat (g l)) → Q v { s with heap := h', toks := tk' }) :
    wpAny (model pw w) (ktrTop dp un gd cn cs L a ccd cl outer) (call (.ref f) vs) Q E s :=
  Cq.use (flat rs) C (K.dis S) (fun q hq => hs q (K.sub q hq)) B F X N T hk hd hu fun v l hP ap h' tk' F' N' => r v l hP (K.sep S ap) h' tk' F' fun q hq => N' q (K.out q hq)
theorem Cr.blk (C : Cr w p loose mean mg mb D f vs small P) (h0 : ∀ q ∈ small, q ∈ flat Bs) (S : Sep Bs) (hs : ∀ q ∈ flat Bs, q ∈ news) (B : Below A₀ base outer h₀) (F : Fr h₀ L s.heap m) (X : (KK w.params).In h₀) (N : News h₀ L s.heap news) (T : Top p loose mean mg mb h₀) (hk : cs.kind = .function) (hd : dp + D < recursionLimit) (hu : un + 100 * D < cLine)
    (r : ∀ v l, P v l → Sep (l :: Bs) → ∀ h' tk', Fr h₀ L h' m → News h₀ L h' (flat (l :: Bs)) → Q v { s with heap := h', toks := tk' }) :
    wpAny (model pw w) (ktrTop dp un gd cn cs L a ccd cl outer) (call (.ref f) vs) Q E s :=
  Cr.use C h0 B F X (News.sub N hs) T hk hd hu fun v l hP ap h' tk' F' N' => r v l hP ⟨ap, S⟩ h' tk' F' N'
theorem Cq.blk2 {b1 b2 : Led} {rs1 rs2 : List Led} {g1 g2 : Led → List Led} (C : Cq w p loose mean mg mb D f vs (b1 ++ b2) P) (K1 : At b1 Bs rs1 g1) (K2 : At b2 rs1 rs2 g2) (S : Sep Bs) (hs : ∀ q ∈ flat Bs, q ∈ news) (B : Below A₀ base outer h₀) (F : Fr h₀ L s.heap m) (X : (KK w.params).In h₀) (N : News h₀ L s.heap news) (T : Top p loose mean mg mb h₀) (hk : cs.kind = .function) (hd : dp + D < recursionLimit) (hu : un + 100 * D < cLine)
    (r : ∀ v l, P v l → Sep (l :: rs2) → ∀ h' tk', Fr h₀ L h' m → News h₀ L h' (flat (l :: rs2)) → Q v { s with heap := h', toks := tk' }) :
    wpAny (model pw w) (ktrTop dp un gd cn cs L a ccd cl outer) (call (.ref f) vs) Q E s := by
  have sub2 : ∀ p ∈ b2 ++ flat rs2, p ∈ flat rs1 := K2.sub
  refine Cq.use (flat rs2) C (Apart.app (Apart.mono (K1.dis S) fun p hp => sub2 p (List.mem_append_right _ hp)) (K2.dis (K1.rest S))) (fun q hq => hs q ?_) B F X N T hk hd hu fun v l hP ap h' tk' F' N' => r v l hP ⟨ap, K2.rest (K1.rest S)⟩ h' tk' F' N'
  rcases List.mem_append.mp hq with hq | hq
  · rcases List.mem_append.mp hq with hq | hq
    · exact K1.sub q (List.mem_append_left _ hq)
    · exact K1.sub q (List.mem_append_right _ (sub2 q (List.mem_append_left _ hq)))
  · exact K1.sub q (List.mem_append_right _ (sub2 q (List.mem_append_right _ hq)))
end
end
section
open PySem.Builtin.Bytes (joined)
section
variable {h₀ h : Heap} {L : Addr} {a b : Led} {Bs : List Led}
theorem news_one {x y : Addr × Obj} (N : News h₀ L h [x, y]) : News h₀ L h (flat [[x, y]]) := N
theorem news_split (N : News h₀ L h (flat ((a ++ b) :: Bs))) : News h₀ L h (flat (a :: b :: Bs)) := fun p hp => N p (by
  show p ∈ (a ++ b) ++ flat Bs
  rw [List.append_assoc]
  exact hp)
end
section
variable {w : World} {p : Program} {loose : List Str} {mean : ExcName → Option Value} {mg mb : Str → Option Value} {D : Nat} {f : Addr} {vs : List Value} {small news : Led} {P : Value → Led → Prop} {dp un : Nat} {gd : Option (List Code)} {cn : Str} {cs : Scope} {a : Addr} {ccd : Value} {cl : List (Str × Addr)} {outer : List Env} {A₀ : Around} {base h₀ : Heap} {L : Addr} {m : Str → Option Value} {s : Shared} {Q E : Value → Shared → Prop} {Bs : List Led}
theorem Cr.blkM (h0 : ∀ q ∈ small, q ∈ flat Bs) (C : Cr w p loose mean mg mb D f vs small P) (S : Sep Bs) (hs : ∀ q ∈ flat Bs, q ∈ news) (B : Below A₀ base outer h₀) (F : Fr h₀ L s.heap m) (X : (KK w.params).In h₀) (N : News h₀ L s.heap news) (T : Top p loose mean mg mb h₀) (hk : cs.kind = .function) (hd : dp + D < recursionLimit) (hu : un + 100 * D < cLine)
    (r : ∀ v l, P v l → Sep (l :: Bs) → ∀ h' tk', Fr h₀ L h' m → News h₀ L h' (flat (l :: Bs)) → Q v { s with heap := h', toks := tk' }) :
    wpAny (model pw w) (ktrTop dp un gd cn cs L a ccd cl outer) (call (.ref f) vs) Q E s := Cr.blk C h0 S hs B F X N T hk hd hu r
end
theorem sep_swap {a b : Led} {Bs : List Led} (S : Sep ((a ++ b) :: Bs)) (h : Apart a b) : Sep (b :: a :: Bs) :=
  And.intro (Apart.both (Apart.flip h) fun p hp q hq => S.1 p hp q (List.mem_append_right _ hq)) (And.intro (fun p hp q hq => S.1 p hp q (List.mem_append_left _ hq)) S.2)
theorem news_swap {h₀ h : Heap} {L : Addr} {a b : Led} {Bs : List Led} (N : News h₀ L h (flat ((a ++ b) :: Bs))) : News h₀ L h (flat (b :: a :: Bs)) := fun p hp => N p (by
  show p ∈ (a ++ b) ++ flat Bs
  rcases List.mem_append.mp hp with hp | hp
  · exact List.mem_append_left _ (List.mem_append_right _ hp)
  · rcases List.mem_append.mp hp with hp | hp
    · exact List.mem_append_left _ (List.mem_append_left _ hp)
    · exact List.mem_append_right _ hp)
section
variable {prog : Program} {w : World} {AA : Around} {E : Value → Shared → Prop} {s : Shared} {h₀ : Heap} {L l : Addr} {m : Str → Option Value} {news : Led} {its : List (Array UInt8 × Tok)} {k : Nat} {t u : Tok} {Q : Value → Shared → Prop} {fs : List (Array UInt8)} {b c : Array UInt8}
theorem join_law (F : Fr h₀ L s.heap m) (N : News h₀ L s.heap news) (hm : (l, W.listOf (bys its).toArray k) ∈ news) (e : its.map (·.1) = fs) (hf : fs.length = 10 ∧ ∀ f ∈ fs, f.size ≤ 60)
    (r : ∀ t' tk, Q (.bytes (joined #[59] fs) t') { s with toks := tk }) : wpAny (model prog w) AA (call (.builtin "bytes.join") [.bytes #[59] t, .ref l]) Q E s := by
  have hl : its.length = 10 := by rw [← hf.1, ← e, List.length_map]
  subst e
  exact bytes_join _ F N hm rfl (by rw [hl]; decide) ⟨Nat.le_refl 1, by rw [hl]; decide, fun p hp => Nat.le_trans (hf.2 _ (List.mem_map_of_mem hp)) (by decide)⟩ r
theorem ne_same (h : b = c) (r : Q (.bool false) s) : wpAny (model prog w) AA (compareOp .NotEq (.bytes b t) (.bytes c u)) Q E s := by
  subst h
  refine ne_bytes ?_
  rw [bne_self_eq_false]
  exact r
end
theorem fld_ok {σ : SV} {r c : Int} {its : List (Array UInt8 × Tok)} (G : Good σ r c) (_ : its.map (·.1) = lawF σ) : (lawF σ).length = 10 ∧ ∀ f ∈ lawF σ, f.size ≤ 60 := ⟨rfl, law_size G⟩
theorem scr_deck {w : World} {A : SA} {T : ST} {r cc : Int} {σ : SV} {d c : Addr} {od oc : Obj} (O : ScrOK w A T cc σ) (h1 : @LT.lt Nat _ d c) (h2 : @LT.lt Nat _ c A.md) : Apart (scrD w A T r cc σ) [(d, od), (c, oc)] := by
  obtain ⟨_, _, _, o1, o2, o3, o4, o5, o6, o7, o8, o9, o10, o11, o12, o13⟩ := O
  have k1 := Nat.lt_trans h2 o1
  have k2 := Nat.lt_trans k1 o2
  have k3 := Nat.lt_trans k2 o3
  have k4 := Nat.lt_trans k3 o4
  have k5 := Nat.lt_trans k4 o5
  have k6 := Nat.lt_trans k5 o6
  have k7 := Nat.lt_trans k6 o7
  have k8 := Nat.lt_trans k7 o8
  have k9 := Nat.lt_trans k8 o9
  have k10 := Nat.lt_trans k9 o10
  have k11 := Nat.lt_trans k10 o11
  have k12 := Nat.lt_trans k11 o12
  have k13 := Nat.lt_trans k12 o13
  have all : ∀ q ∈ scrD w A T r cc σ, @LT.lt Nat _ c q.1 := by
    unfold scrD scrL
    simp only [List.forall_mem_cons, List.not_mem_nil, false_implies, implies_true, and_true]
    refine ⟨?_, ?_, ?_, ?_, ?_, ?_, ?_, ?_, ?_, ?_, ?_, ?_, ?_, ?_⟩ <;> assumption
  intro p hp q hq
  have k := all q hq
  simp only [List.mem_cons, List.not_mem_nil, or_false] at hp
  rcases hp with rfl | rfl
  · exact Nat.ne_of_lt (Nat.lt_trans h1 k)
  · exact Nat.ne_of_lt k
section
variable (w : World) (p : Program) (loose : List Str) (mean : ExcName → Option Value) (mg mb : Str → Option Value)
noncomputable abbrev StP (A : SA) (σ : SV) (v : Value) (l : Led) : Prop := ∃ (q nl : Addr) (k1 k2 : Nat) (shv : Value) (t0 t1 t2 t3 u0 u1 u2 u3 : Tok), v = .ref q ∧ l = [(q, W.listOf #[.int σ.row t0, .int σ.col t1, .ref A.pn, .bool σ.gd, .bool σ.og, .bool σ.wt, .ref nl, .int σ.lf t2, .int σ.rt t3, shv, .bool σ.md] k1), (nl, W.listOf #[.bytes σ.b0 u0, .bytes σ.b1 u1, .bytes σ.b2 u2, .bytes σ.b3 u3] k2)] ∧ ShIs shv σ.sh
theorem st_F (A : SA) (T : ST) (r c : Int) (σ : SV) (O : ScrOK w A T c σ) : Cr w p loose mean mg mb 8 1306 [.ref A.s] (scrD w A T r c σ) (StP A σ) := state_ok w p loose mean mg mb A T r c σ O
theorem st_pn (A : SA) (D : Addr) (T : ST) (r c : Int) (σ : SV) (O : ScrOK w (A.wPn D) T c σ) : Cr w p loose mean mg mb 8 1306 [.ref A.s] (scrD w (A.wPn D) T r c σ) (StP (A.wPn D) σ) := state_ok w p loose mean mg mb (A.wPn D) T r c σ O
theorem cur_F (A : SA) (T : ST) (r c : Int) (σ : SV) (O : ScrOK w A T c σ) (G : Good σ r c) (hr : r ≤ 9) (hc : c ≤ 9) : Cr w p loose mean mg mb 14 133 [.ref A.s] (scrD w A T r c σ) (fun v l => (∃ t', v = .bytes (joined #[59] (lawF σ)) t') ∧ l = []) := by
  have h := cur_ok w p loose mean mg mb A T r c σ O G hr hc
  rwa [rep_law G.fl0 G.fl1] at h
theorem draw_cq (d c : Addr) (n : Nat) (od oc : Obj) (below : Int) (tb : Tok) (hn : n ≤ 1000) (hb : 0 < below) (hb2 : below ≤ 1000) (hD : Deck w c n od oc) (hdc : @LT.lt Nat _ d c) :
    Cq w p loose mean mg mb 2 1287 [.ref d, .int below tb] [(d, od), (c, oc)] (fun v l => ∃ x t od' oc', v = .int x t ∧ 0 ≤ x ∧ x < below ∧ l = [(d, od'), (c, oc')] ∧ Deck w c (n + 1) od' oc') := by
  intro rest dis
  have h1 : ∀ q ∈ rest, q.1 ≠ d := fun q hq => dis q hq (d, od) (.head _)
  have h2 : ∀ q ∈ rest, q.1 ≠ c := fun q hq => dis q hq (c, oc) (.tail _ (.head _))
  have C := draw_rest w p loose mean mg mb d c n od oc below tb rest hn hb hb2 hD hdc h1 h2
  intro dp un gd cn cs a ccd cl outer A₀ base h₀ L m s Q E B F X N T hk hd hu hr
  refine C dp un gd cn cs a ccd cl outer A₀ base h₀ L m s Q E B F X N T hk hd hu ?_
  intro v t od' oc' v0 v1 D' h' tk' F' N'
  refine hr _ [(d, od'), (c, oc')] ⟨v, t, od', oc', rfl, v0, v1, rfl, D'⟩ (fun q hq r hr => ?_) h' tk' F' N'
  simp only [List.mem_cons, List.not_mem_nil, or_false] at hr
  rcases hr with rfl | rfl
  · exact h1 q hq
  · exact h2 q hq
end

section
variable {w : World} {p : Program} {loose : List Str} {mean : ExcName → Option Value} {mg mb : Str → Option Value} {news : Led} {dp un : Nat} {gd : Option (List Code)} {cn : Str} {cs : Scope} {a : Addr} {ccd : Value} {cl : List (Str × Addr)} {outer : List Env} {A₀ : Around} {base h₀ : Heap} {L : Addr} {m : Str → Option Value} {s : Shared} {Q E : Value → Shared → Prop} {Bs : List Led}
theorem spoilt_blk {d c q : Addr} {n k : Nat} {od oc : Obj} {its : List (Array UInt8 × Tok)} {fs : List (Array UInt8)} {rs1 rs2 : List Led} {g1 g2 : Led → List Led} (D : Deck w c n od oc) (hn : n ≤ 500) (hdc : @LT.lt Nat _ d c) (K1 : At [(d, od), (c, oc)] Bs rs1 g1) (K2 : At [(q, W.listOf (bys its).toArray k)] rs1 rs2 g2) (he : its.map (·.1) = fs) (hf : fs.length = 10 ∧ ∀ f ∈ fs, f.size ≤ 60)
    (S : Sep Bs) (hs : ∀ q ∈ flat Bs, q ∈ news) (B : Below A₀ base outer h₀) (F : Fr h₀ L s.heap m) (X : (KK w.params).In h₀) (N : News h₀ L s.heap news) (T : Top p loose mean mg mb h₀) (hk : cs.kind = .function) (hd : dp + 8 < recursionLimit) (hu : un + 100 * 8 < cLine)
    (r : ∀ bb t n' od' oc', Spoilt fs bb → Deck w c n' od' oc' → n' ≤ n + 3 → Sep ([(d, od'), (c, oc')] :: [(q, W.listOf (bys its).toArray k)] :: rs2) → ∀ h' tk', Fr h₀ L h' m → News h₀ L h' (flat ([(d, od'), (c, oc')] :: [(q, W.listOf (bys its).toArray k)] :: rs2)) → Q (.bytes bb t) { s with heap := h', toks := tk' }) :
    wpAny (model pw w) (ktrTop dp un gd cn cs L a ccd cl outer) (call (.ref 1335) [.ref d, .ref q]) Q E s := by
  subst he
  have hl : its.length = 10 := by rw [← hf.1, List.length_map]
  have ap : Apart [(d, od), (c, oc)] [(q, W.listOf (bys its).toArray k)] := Apart.mono (K1.dis S) fun p hp => K2.sub p (List.mem_append_left _ hp)
  have n1 : @Ne Nat d q := fun e => ap _ (.head _) (d, od) (.head _) e.symm
  have n2 : @Ne Nat c q := fun e => ap _ (.head _) (c, oc) (.tail _ (.head _)) e.symm
  refine Cq.blk2 (b1 := [(d, od), (c, oc)]) (b2 := [(q, W.listOf (bys its).toArray k)]) (spoilt_ok w p loose mean mg mb d c q n od oc its k hn D hdc n1 n2 hl fun p hp => hf.2 _ (List.mem_map_of_mem hp)) K1 K2 S hs B F X N T hk hd hu ?_
  rintro v l ⟨bb, t, n', od', oc', rfl, hsp, rfl, D', hn'⟩ S' h' tk' F' N'
  refine r bb t n' od' oc' hsp D' hn' (sep_split (a := [(d, od'), (c, oc')]) (b := [(q, W.listOf (bys its).toArray k)]) S' ?_) h' tk' F' (news_split (a := [(d, od'), (c, oc')]) (b := [(q, W.listOf (bys its).toArray k)]) N')
  intro x hx y hy
  rw [List.mem_singleton.mp hx]
  rcases List.mem_cons.mp hy with rfl | hy
  · exact fun e => n1 e.symm
  · rw [List.mem_singleton.mp hy]
    exact fun e => n2 e.symm
theorem rcn_blk {q : Addr} {o : Obj} {bb : Array UInt8} {t : Tok} {σ : SV} {r0 c0 : Int} (G : Good σ r0 c0) (hr : r0 ≤ 9) (hc : c0 ≤ 9) (hsp : Spoilt (lawF σ) bb) (hm : (q, o) ∈ flat Bs)
    (S : Sep Bs) (hs : ∀ q ∈ flat Bs, q ∈ news) (B : Below A₀ base outer h₀) (F : Fr h₀ L s.heap m) (X : (KK w.params).In h₀) (N : News h₀ L s.heap news) (T : Top p loose mean mg mb h₀) (hk : cs.kind = .function) (hd : dp + 14 < recursionLimit) (hu : un + 100 * 14 < cLine)
    (r : ∀ h' tk', Fr h₀ L h' m → News h₀ L h' (flat Bs) → Q .none { s with heap := h', toks := tk' }) :
    wpAny (model pw w) (ktrTop dp un gd cn cs L a ccd cl outer) (call (.ref 152) [.ref q, .bytes bb t]) Q E s := by
  refine Cr.blk (rc_none w p loose mean mg mb q o bb t (law_spoilt G hr hc hsp)) (List.forall_mem_cons.mpr ⟨hm, List.forall_mem_nil _⟩) S hs B F X N T hk hd hu ?_
  rintro v l ⟨rfl, rfl⟩ _ h' tk' F' N'
  exact r h' tk' F' N'
end
theorem lawE_false (σ : SV) : lawE σ false = lawF σ := by
  unfold lawE lawF
  rw [cond_false, Int.add_zero]
  rfl
theorem sh_put {o : Option Int} (h : o = none ∨ o = some 2 ∨ o = some 3) : (bif decide (o = some 2) then some 2 else bif decide (o = some 3) then some 3 else none) = o := by
  rcases h with rfl | rfl | rfl <;> rfl
noncomputable abbrev rcL (σ1 σ2 : SV) : SV := rcV σ2 2 6 (σ1.row + 1) (σ1.col + 1) σ1.lf σ1.rt (σ1.fl.fmod 2 == 1) (decide (0 < σ1.fl.fdiv 512)) ((σ1.fl.fdiv 8).fmod 2 == 1) ((σ1.fl.fdiv 32).fmod 2 == 1) σ1.gd σ1.og (decide (σ1.sh = some 2)) (decide (σ1.sh = some 3)) σ1.wt σ1.b0 σ1.b1 σ1.b2 σ1.b3
theorem put_eq {σ1 σ2 : SV} {r c r2 c2 : Int} (G1 : Good σ1 r c) (G2 : Good σ2 r2 c2) : ((rcL σ1 σ2).row = putMid σ1.row 2 ∧ (rcL σ1 σ2).col = putMid σ1.col 6 ∧ (rcL σ1 σ2).gd = σ1.gd ∧ (rcL σ1 σ2).og = σ1.og ∧ (rcL σ1 σ2).wt = σ1.wt ∧ (rcL σ1 σ2).lf = σ1.lf ∧ (rcL σ1 σ2).rt = σ1.rt ∧ (rcL σ1 σ2).sh = σ1.sh ∧ (rcL σ1 σ2).md = σ1.og) ∧ ((rcL σ1 σ2).fl = putFl σ1.fl σ2.fl ∧ (rcL σ1 σ2).q1 = σ2.q1 ∧ (rcL σ1 σ2).q2 = σ2.q2 ∧ (rcL σ1 σ2).q3 = σ2.q3 ∧ (rcL σ1 σ2).q4 = σ2.q4) ∧ (rcL σ1 σ2).b0 = σ1.b0 ∧ (rcL σ1 σ2).b1 = σ1.b1 ∧ (rcL σ1 σ2).b2 = σ1.b2 ∧ (rcL σ1 σ2).b3 = σ1.b3 :=
  ⟨⟨mid_put G1.row0 (by decide), mid_put G1.col0 (by decide), rfl, rfl, rfl, rfl, rfl, sh_put G1.sh, rfl⟩, ⟨rc_put G1.fl0 G2.fl0 G2.fl1, rfl, rfl, rfl, rfl⟩, rfl, rfl, rfl, rfl⟩
theorem pn_apart {w : World} {A : SA} {D : Addr} {T T2 : ST} {r c c2 : Int} {σ σ2 : SV} {o : Obj} (O : ScrOK w A T c2 σ2) (lt : @LT.lt Nat _ A.pn D) : Apart [(A.pn, o)] (scrD w (A.wPn D) T2 r c σ) := by
  obtain ⟨_, _, _, o1, o2, o3, o4, o5, o6, o7, o8, o9, o10, o11, o12, o13⟩ := O
  have d11 := Nat.lt_trans o12 o13
  have d10 := Nat.lt_trans o11 d11
  have d9 := Nat.lt_trans o10 d10
  have d8 := Nat.lt_trans o9 d9
  have d7 := Nat.lt_trans o8 d8
  have d6 := Nat.lt_trans o7 d7
  have d5 := Nat.lt_trans o6 d6
  have d4 := Nat.lt_trans o5 d5
  have d3 := Nat.lt_trans o4 d4
  have d2 := Nat.lt_trans o3 d3
  have d1 := Nat.lt_trans o2 d2
  have d0 := Nat.lt_trans o1 d1
  have all : ∀ q ∈ scrD w (A.wPn D) T2 r c σ, @Ne Nat q.1 A.pn := by
    unfold scrD scrL
    simp only [List.forall_mem_cons, List.not_mem_nil, false_implies, implies_true, and_true]
    refine ⟨?_, ?_, ?_, ?_, ?_, ?_, ?_, ?_, ?_, ?_, ?_, ?_, ?_, ?_⟩ <;> (refine neN ?_; (try dsimp only); first | exact Nat.ne_of_lt (by assumption) | exact Nat.ne_of_gt (by assumption))
  intro x hx y hy
  rw [List.mem_singleton.mp hy]
  exact all x hx
section
variable {w : World} {p : Program} {loose : List Str} {mean : ExcName → Option Value} {mg mb : Str → Option Value} {news : Led} {dp un : Nat} {gd : Option (List Code)} {cn : Str} {cs : Scope} {a : Addr} {ccd : Value} {cl : List (Str × Addr)} {outer : List Env} {A₀ : Around} {base h₀ : Heap} {L : Addr} {m : Str → Option Value} {s : Shared} {Q E : Value → Shared → Prop} {Bs : List Led}
theorem rc_blk {A : SA} {T : ST} {σ1 σ2 : SV} {r0 c0 : Int} {bb : Array UInt8} {t : Tok} {fs : List (Array UInt8)} {rs : List Led} {g : Led → List Led} (O : ScrOK w A T 6 σ2) (K : At (scrD w A T 2 6 σ2) Bs rs g) (he : fs = lawE σ1 false ∨ fs = lawE σ1 true) (G : Good σ1 r0 c0) (hr : r0 ≤ 9) (hc : c0 ≤ 9) (hb : bb = joined #[59] fs)
    (S : Sep Bs) (hs : ∀ q ∈ flat Bs, q ∈ news) (B : Below A₀ base outer h₀) (F : Fr h₀ L s.heap m) (X : (KK w.params).In h₀) (N : News h₀ L s.heap news) (T' : Top p loose mean mg mb h₀) (hk : cs.kind = .function) (hd : dp + 14 < recursionLimit) (hu : un + 100 * 14 < cLine)
    (r : ∀ D T2, ScrOK w (A.wPn D) T2 6 (rcL σ1 σ2) → Sep ([(A.pn, pnO T σ2)] :: g (scrD w (A.wPn D) T2 2 6 (rcL σ1 σ2))) → ∀ h' tk', Fr h₀ L h' m → News h₀ L h' (flat ([(A.pn, pnO T σ2)] :: g (scrD w (A.wPn D) T2 2 6 (rcL σ1 σ2)))) → Q .none { s with heap := h', toks := tk' }) :
    wpAny (model pw w) (ktrTop dp un gd cn cs L a ccd cl outer) (call (.ref 152) [.ref A.s, .bytes bb t]) Q E s := by
  subst hb
  have H : ∀ t, Cr w p loose mean mg mb 10 145 [.bytes (joined #[59] fs) t] [] (RcRead (σ1.row + 1) (σ1.col + 1) 1 σ1.lf σ1.rt (σ1.fl.fmod 2 == 1) (decide (0 < σ1.fl.fdiv 512)) ((σ1.fl.fdiv 8).fmod 2 == 1) ((σ1.fl.fdiv 32).fmod 2 == 1) σ1.gd σ1.og (decide (σ1.sh = some 2)) (decide (σ1.sh = some 3)) σ1.wt [dash σ1.b0, dash σ1.b1, dash σ1.b2, dash σ1.b3] σ1.b0 σ1.b1 σ1.b2 σ1.b3) := by
    rcases he with rfl | rfl
    · exact law_read G hr hc false
    · exact law_read G hr hc true
  refine Cq.use (flat rs) (rc_ok w p loose mean mg mb A T 2 6 σ2 O _ t _ _ _ _ _ _ _ _ _ _ _ _ _ _ _ _ _ _ _ G.b0 G.b1 G.b2 G.b3 H) (K.dis S) (fun q hq => hs q (K.sub q hq)) B F X N T' hk hd hu ?_
  rintro v l ⟨rfl, D, T2, lt, rfl, O2⟩ ap h' tk' F' N'
  refine r D T2 O2 (And.intro (Apart.mono (Apart.both (pn_apart O lt) fun p hp q hq => ap p hp q (by rw [List.mem_singleton.mp hq]; exact .head _)) fun p hp => K.out p hp) (K.sep S fun p hp q hq => ap p hp q (.tail _ hq))) h' tk' F' fun q hq => ?_
  rcases List.mem_append.mp hq with hq | hq
  · rw [List.mem_singleton.mp hq]
    exact N' _ (.head _)
  · rcases List.mem_append.mp (K.out q hq) with hq | hq
    · exact N' _ (.tail _ (List.mem_append_left _ hq))
    · exact N' _ (.tail _ (List.mem_append_right _ hq))
end
end
section
section
variable {prog : Program} {w : World} {A : Around} {E : Value → Shared → Prop} {s : Shared} {h₀ : Heap} {L st : Addr} {m : Str → Option Value} {news : Led} {ost : Obj} {kvs : List (Int × Value)} {Q : Value → Shared → Prop}
theorem sorted_keys (hh : A.handled = none) (F : Fr h₀ L s.heap m) (N : News h₀ L s.heap news) (hm : (st, ost) ∈ news) (hd : ost.IsDictOf (intKind prog w) kvs) (hl : kvs.length < 64) (lo : (st == sysModules) = false)
    (h : ∀ D vs ns c h' tk, Fr h₀ L h' m → News h₀ L h' ((D, W.listOf (List.toArray vs) c) :: news) → (∀ q ∈ news, q.1 < D) → IntsAre vs ns → ns.Perm (kvs.map (·.1)) → ns.Pairwise (fun x y => x ≤ y) → Q (.ref D) { s with heap := h', toks := tk }) :
    wpAny (model prog w) A (call (.builtin "sorted") [.ref st]) Q E s := by
  have hD : s.heap.DictOf (intKind prog w) st kvs := Heap.dictOf_iff.mpr ⟨ost, (N _ hm).1, hd⟩
  obtain ⟨ep, hat⟩ := hD.dictAt
  refine kdu_sorted (kdl_dict (knd := intKind prog w) (kvs := kvs) (ep := ep) lo) hh F N hat (Nat.le_trans (Nat.le_of_lt hl) (Nat.le_of_ble_eq_true rfl)) fun D h' tk vs F' N' l1 hv hk => ?_
  have hI : IntsAre vs (kvs.map (·.1)) := ints_of (by rw [hv, List.length_map]) fun i v e => by
    obtain ⟨k, x, hx, hi⟩ := hk i v e
    obtain ⟨t, rfl⟩ := PyProof.V.Flat.int_inv (kdl_flat_int hi)
    exact ⟨k, t, by rw [List.getElem?_map, hx]; rfl, rfl⟩
  refine ksk_lsort (vs := vs) F' N' (fun o => Upd.head fun q hq => Nat.ne_of_lt (l1 q hq)) rfl hI (by rw [List.length_map]; exact hl) fun vs' ns' c h'' F2 N2 hI' _ hp hP _ => h D vs' ns' c h'' tk F2 N2 l1 hI' hp hP
end
local macro_rules | `(tactic| k_lt $h:ident) => `(tactic| clear $h)
theorem kw_WTold_0 : True := by
  k_with "z53" => skip
  k_with "my call builtin:sorted" => ((fail_if_success k_extra "z56"); ((k_here; k_dflt (refine sorted_keys (s := ⟨_, _, _, _, _⟩) (by rfl) (by k_asm) (by k_asm) (by k_mem) (by assumption) (by assumption) (by assumption) ?_); intro D' vs' ns' c' h' tk' F' N' l1 hI' hp' hP')))
  trivial
set_option maxHeartbeats 1000000 in
theorem told_ok (w : World) (p : Program) (loose : List Str) (mean : ExcName → Option Value) (mg mb : Str → Option Value) (g td st : Addr) (t0 t1 tc : Tok) (cc : Int) (ost : Obj) (kvs : List (Int × Value)) (hd : ost.IsDictOf (intKind pw w) kvs) (hl : kvs.length < 64) (lo : (st == sysModules) = false) :
    Cr w p loose mean mg mb 4 634 [.ref g] [(g, instObj 673 td), (td, dictOf [en w "columns" t0 (.int cc tc), en w "stops" t1 (.ref st)] 2), (st, ost)] (fun v l => ∃ q vs ns k, v = .ref q ∧ l = [(q, W.listOf (List.toArray vs) k)] ∧ IntsAre vs ns ∧ ns.Perm (kvs.map (·.1)) ∧ ns.Pairwise (fun x y => x ≤ y)) := _root_.id <| by
  k_dflt (refine' Cr.of_body (binds := [(("self" : Str), .ref g)]) ?k6 ?k7 ?k9 ?kB ?c2 ?c3 ?c4 ?c5 ?_; (case k6 => k_is); (case k7 => k_is); (case k9 => exact rfl); (case kB => exact locs rfl); (case c2 => exact rfl); (case c3 => exact rfl); (case c4 => exact rfl); (case c5 => decide))
  intro dp un gd outer A₀ base g L h tk gs dr os Q B X Tp F N lL hd hu hQ
  try k_lt lL
  k_extra "my ks2"
  refine' hQ (.ret _) _ [(_, W.listOf (List.toArray _) _)] _ _ _ ?ff ?nn ?sub ?ap ⟨_, _, _, _, rfl, rfl, ?a, ?b, ?c⟩
  case a => assumption
  case b => assumption
  case c => assumption
  case ff => assumption
  case nn => assumption
  case sub => (try simp only [List.cons_append, List.nil_append]); kcf_all
  case ap => exact List.forall_mem_cons.mpr ⟨fun q hq => Nat.ne_of_lt ((by assumption : ∀ q ∈ [_, _, _], q.1 < _) q hq), List.forall_mem_nil _⟩
end
section
open PySem.Builtin.Bytes (joined)
noncomputable abbrev looksI (σ : SV) : Int := bit4 (σ.fl.fmod 2 == 1) (decide (0 < σ.fl.fdiv 512)) ((σ.fl.fdiv 8).fmod 2 == 1) ((σ.fl.fdiv 32).fmod 2 == 1)
theorem fld3 {its : List (Array UInt8 × Tok)} {σ : SV} (e : its.map (·.1) = lawF σ) : ∃ t, (bys its)[3]? = some (.bytes (byteArr [looksI σ]) t) := by
  have h : (its.map (·.1))[3]? = some (byteArr [looksI σ]) := by rw [e]; rfl
  rw [List.getElem?_map] at h
  cases q : its[3]? with
  | none => rw [q] at h; cases h
  | some p =>
    rw [q] at h
    have z : p.1 = byteArr [looksI σ] := Option.some.inj h
    exact ⟨p.2, by unfold bys; rw [List.getElem?_map, q, ← z]; rfl⟩
theorem its_len {its : List (Array UInt8 × Tok)} {σ : SV} (e : its.map (·.1) = lawF σ) : its.length = 10 := by
  rw [← List.length_map (f := (·.1)), e]; rfl
theorem its_set {its : List (Array UInt8 × Tok)} {σ : SV} {u : Tok} (e : its.map (·.1) = lawF σ) : (its.set (Int.toNat 3) (byteArr [looksI σ + 16], u)).map (·.1) = lawE σ true := by
  rw [List.map_set, e]; rfl
theorem in_looks (σ : SV) : KBa.In [looksI σ + 16] := by
  have b := bit4_in (σ.fl.fmod 2 == 1) (decide (0 < σ.fl.fdiv 512)) ((σ.fl.fdiv 8).fmod 2 == 1) ((σ.fl.fdiv 32).fmod 2 == 1) true
  simp only [cond_true] at b
  exact in1 (Int.le_trans (by decide) b.1) (Int.lt_of_le_of_lt b.2 (by decide))
theorem in_looks0 (σ : SV) : KBa.In [looksI σ] := in_b4 _ _ _ _
section
variable {prog : Program} {w : World} {AA : Around} {E : Value → Shared → Prop} {s : Shared} {h₀ : Heap} {L D : Addr} {m : Str → Option Value} {news : Led} {its : List (Array UInt8 × Tok)} {n : Nat} {σ : SV} {t u ui : Tok} {value slice : PySem.Expr}
theorem item_fld {Q : Value → Shared → Prop} (N : News h₀ L s.heap news) (hm : (D, W.listOf (bys its).toArray n) ∈ news) (e : its.map (·.1) = lawF σ) (h : ∀ t, Q (.bytes (byteArr [looksI σ]) t) s)
    (hs : subscripted slice false (.ref D) (.int 3 u) = operate [.ref D, .int 3 u] (getItem (.ref D) (.int 3 u)) := by with_unfolding_all rfl) : wpAny (model prog w) AA (subscriptTail value slice (.ref D) (.int 3 u)) Q E s := by
  obtain ⟨t, ht⟩ := fld3 e
  exact item_led N hm (by decide) (by decide) (v := .bytes (byteArr [looksI σ]) t) ht (h t) hs
theorem byte_fld {x : Int} {Q : Value → Shared → Prop} (hI : KBa.In [x]) (h : ∀ t' k, Q (.int x t') { s with toks := k })
    (hs : subscripted slice false (.bytes (byteArr [x]) t) (.int 0 ui) = operate [.bytes (byteArr [x]) t, .int 0 ui] (getItem (.bytes (byteArr [x]) t) (.int 0 ui)) := by with_unfolding_all rfl)
    (ht : ∀ r, letTemporaryGo value (.bytes (byteArr [x]) t) r = pure () := by intro _; with_unfolding_all rfl) : wpAny (model prog w) AA (subscriptTail value slice (.bytes (byteArr [x]) t) (.int 0 ui)) Q E s :=
  KBw.item_K (ks := [x]) (KBa.ints_make hI) (show (1 : Nat) ≤ 1099511627776 by decide) (by decide) (show (0 : Int) < ((1 : Nat) : Int) by decide) (fun t' k _ _ => h t' k) hs ht
theorem upd_flat {dk : Led} {Bs : List Led} {o : Obj} (S : Sep (dk :: [(D, o)] :: Bs)) : UpdL [(D, o)] D (flat (dk :: [(D, o)] :: Bs)) (fun l' => flat (dk :: l' :: Bs)) :=
  .right (fun p hp e => S.1 (D, o) (.head _) p hp e.symm) (.left (fun p hp => S.2.1 p hp (D, o) (.head _)) .here)
theorem eq_same {b c : Array UInt8} {Q : Value → Shared → Prop} (h : b = c) (r : Q (.bool true) s) : wpAny (model prog w) AA (compareOp .Eq (.bytes b t) (.bytes c u)) Q E s := by
  subst h
  refine eq_bytes ?_
  rw [beq_self_eq_true]
  exact r
end
theorem sep_fld {dk : Led} {Bs : List Led} {D : Addr} {o o' : Obj} (S : Sep (dk :: [(D, o)] :: Bs)) : Sep (dk :: [(D, o')] :: Bs) := by
  refine And.intro (fun p hp q hq => ?_) (And.intro (fun p hp q hq => ?_) S.2.2)
  · rcases List.mem_append.mp hp with hp | hp
    · rw [List.mem_singleton.mp hp]
      exact S.1 (D, o) (List.mem_append_left _ (.head _)) q hq
    · exact S.1 p (List.mem_append_right _ hp) q hq
  · rw [List.mem_singleton.mp hq]
    exact S.2.1 p hp (D, o) (.head _)
noncomputable def EndR (R : Flow → Shared → Prop) (w : World) (c d q : Addr) (n : Nat) (σ : SV) (rs : List Led) (h₀ : Heap) (L : Addr) (m : Str → Option Value) (s : Shared) : Prop :=
  ∀ its b k od oc n' h' tk', its.map (·.1) = lawE σ b → Deck w c n' od oc → n' ≤ n + 1 → Sep ([(d, od), (c, oc)] :: [(q, W.listOf (bys its).toArray k)] :: rs) → Fr h₀ L h' m → News h₀ L h' (flat ([(d, od), (c, oc)] :: [(q, W.listOf (bys its).toArray k)] :: rs)) → R .next { s with heap := h', toks := tk' }
section
variable {w : World} {AA : Around} {E : Value → Shared → Prop} {h₀ h : Heap} {L d c q : Addr} {m : Str → Option Value} {Bs rs1 rs2 : List Led} {its : List (Array UInt8 × Tok)} {n k : Nat} {σ : SV} {od oc : Obj} {g1 g2 : Led → List Led} {st : PySem.Stmt} {env : Env} {gs : Array GenState} {dr : Drawn} {tk : Nat} {os : OsState}
theorem if_join {Q : Flow → Shared → Prop} (_D : Deck w c n od oc) (e : its.map (·.1) = lawF σ) (K1 : At [(d, od), (c, oc)] Bs rs1 g1) (K2 : At [(q, W.listOf (bys its).toArray k)] rs1 rs2 g2) (S : Sep Bs) (_F : Fr h₀ L h m) (N : News h₀ L h (flat Bs))
    (h1 : ∀ R, Sep ([(d, od), (c, oc)] :: [(q, W.listOf (bys its).toArray k)] :: rs2) → News h₀ L h (flat ([(d, od), (c, oc)] :: [(q, W.listOf (bys its).toArray k)] :: rs2)) → EndR R w c d q n σ rs2 h₀ L m ⟨h, gs, dr, tk, os⟩ → wpAny (model pw w) AA (exec st env) R E ⟨h, gs, dr, tk, os⟩)
    (h2 : EndR Q w c d q n σ rs2 h₀ L m ⟨h, gs, dr, tk, os⟩) : wpAny (model pw w) AA (exec st env) Q E ⟨h, gs, dr, tk, os⟩ := by
  have sub2 : ∀ p ∈ [(q, W.listOf (bys its).toArray k)] ++ flat rs2, p ∈ flat rs1 := K2.sub
  refine h1 Q (And.intro ?_ (And.intro (K2.dis (K1.rest S)) (K2.rest (K1.rest S)))) (fun p hp => N p ?_) h2
  · exact Apart.mono (K1.dis S) fun p hp => sub2 p hp
  · rcases List.mem_append.mp hp with hp | hp
    · exact K1.sub p (List.mem_append_left _ hp)
    · exact K1.sub p (List.mem_append_right _ (sub2 p hp))
end
theorem lawE_len (σ : SV) (b : Bool) {r c : Int} (G : Good σ r c) : (lawE σ b).length = 10 ∧ ∀ f ∈ lawE σ b, f.size ≤ 60 :=
  ⟨by rw [List.length_set]; rfl, all_set (law_size G) (by rw [byteArr_size]; exact Nat.le_of_ble_eq_true rfl)⟩
noncomputable abbrev SV.wPen (σ : SV) (x a b c d : Int) : SV := { σ with fl := x, q1 := a, q2 := b, q3 := c, q4 := d }
theorem good_pen {σ : SV} {r c : Int} (G : Good σ r c) (a b e d : Int) : Good (σ.wPen (3 * 512) a b e d) r c :=
  ⟨G.row0, G.row1, G.col0, G.col1, show (0 : Int) ≤ 3 * 512 by decide, show (3 * 512 : Int) < 4096 by decide, G.lf0, G.lf1, G.rt0, G.rt1, G.md, G.b0, G.b1, G.b2, G.b3, G.sh⟩
section
variable {prog : Program} {w : World} {AA : Around} {E : Value → Shared → Prop} {s : Shared} {Q : Unit → Shared → Prop} {h₀ : Heap} {L : Addr} {m : Str → Option Value} {news : Led} {A : SA} {T : ST} {r c : Int} {σ : SV}
theorem set_pen5 {D a0 : Addr} {Bs rs : List Led} {g : Led → List Led} {f a1 a2 a3 a4 : Int} {u0 u1 u2 u3 u4 : Tok} (e0 : a0 = A.cu) (O : ScrOK w A T c σ) (F : Fr h₀ L s.heap m) (X : (KK w.params).In h₀) (N : News h₀ L s.heap ((D, tupV [.int f u0, .int a1 u1, .int a2 u2, .int a3 u3, .int a4 u4]) :: flat Bs)) (lD : ∀ p ∈ flat Bs, p.1 < D) (K : At (scrD w A T r c σ) Bs rs g)
    (h : ∀ h' T', Fr h₀ L h' m → News h₀ L h' (scrD w (A.wPn D) T' r c (σ.wPen f a1 a2 a3 a4)) → ScrOK w (A.wPn D) T' c (σ.wPen f a1 a2 a3 a4) → Q () { s with heap := h', toks := s.toks + 2 }) :
    wpAny (model pw w) AA (setAttr (.ref a0) "pen" (.ref D)) Q E s := by
  subst e0
  have sub : ∀ p ∈ scrD w A T r c σ, p ∈ flat Bs := fun p hp => K.sub p (List.mem_append_left _ hp)
  have N0 : News h₀ L s.heap ((D, tupV [.int f u0, .int a1 u1, .int a2 u2, .int a3 u3, .int a4 u4]) :: scrD w A T r c σ) := News.sub N fun p hp => by
    rcases List.mem_cons.mp hp with rfl | hp
    · exact .head _
    · exact .tail _ (sub p hp)
  have nD : D ≠ A.cud := Nat.ne_of_gt (lD _ (sub (A.cud, _) scr_m_cud))
  have l2 : @LT.lt Nat _ A.nm D := lD _ (sub (A.nm, _) scr_m_nm)
  have U : UpdL (scrD w A T r c σ) A.cud ((D, tupV [.int f u0, .int a1 u1, .int a2 u2, .int a3 u3, .int a4 u4]) :: scrD w A T r c σ) (fun l => (D, tupV [.int f u0, .int a1 u1, .int a2 u2, .int a3 u3, .int a4 u4]) :: l) := .tail nD .here
  have V := U.upd (upd_cud O (cuO w (A.wPn D) T σ))
  have hD' := upd_still V (.head _) nD
  refine' set_dict F X N0 (InstAt.of_news N0 (U.mem _ scr_m_cu) (U.mem _ scr_m_cud)) rfl ?k6 ?k7 ?k8 ?k9 ?k10 ?k11 V (Nat.le_of_ble_eq_true rfl) ?_
  case k6 => k_is
  case k7 => k_is
  case k8 => k_is
  case k9 => k_is
  case k10 => rfl
  case k11 => rfl
  intro h' F' N'
  refine h h' { T with p0 := u0, p1 := u1, p2 := u2, p3 := u3, p4 := u4 } F' (fun p hp => U.news (l2 := (D, tupV [.int f u0, .int a1 u1, .int a2 u2, .int a3 u3, .int a4 u4]) :: scrD w (A.wPn D) { T with p0 := u0, p1 := u1, p2 := u2, p3 := u3, p4 := u4 } r c (σ.wPen f a1 a2 a3 a4)) N' ?_ p (.tail _ (.tail _ hp))) ⟨O.oss, O.ost, O.sh, O.o1, O.o2, O.o3, O.o4, O.o5, O.o6, O.o7, O.o8, O.o9, O.o10, O.o11, O.o12, l2⟩
  refine List.forall_mem_cons.mpr ⟨hD', ?_⟩
  unfold scrD scrL
  refine List.forall_mem_cons.mpr ⟨U.mem' _ (.head _), ?_⟩
  simp only [List.forall_mem_cons, List.not_mem_nil, false_implies, implies_true, and_true]
  refine ⟨U.mem' _ ?_, U.mem' _ ?_, U.mem' _ ?_, U.mem' _ ?_, U.mem' _ ?_, U.mem' _ ?_, U.mem' _ ?_, U.mem' _ ?_, U.mem' _ ?_, U.mem' _ ?_, U.mem' _ ?_, U.mem' _ ?_, hD'⟩
  all_goals k_mem
end
theorem law_cuts {σ : SV} {r c : Int} (G : Good σ r c) (hr : r ≤ 9) (hc : c ≤ 9) : Cuts (joined #[59] (lawF σ)) 59 (lawF σ) :=
  cuts_of (by intro e; cases e) (law_off G hr hc) (fun p hp => Nat.le_trans (law_size G p hp) (by decide)) (Nat.le_of_ble_eq_true rfl)
theorem looks_B (σ : SV) (a b c d : Int) : byteArr [looksI (σ.wPen (3 * 512) a b c d)] = List.toArray [66] := by
  show byteArr [bit4 (Int.fmod (3 * 512) 2 == 1) (decide (0 < Int.fdiv (3 * 512) 512)) ((Int.fdiv (3 * 512) 8).fmod 2 == 1) ((Int.fdiv (3 * 512) 32).fmod 2 == 1)] = _
  decide
section
variable (w : World) (p : Program) (loose : List Str) (mean : ExcName → Option Value) (mg mb : Str → Option Value)
theorem cur_pn (A : SA) (D : Addr) (T : ST) (r c : Int) (σ : SV) (O : ScrOK w (A.wPn D) T c σ) (G : Good σ r c) (hr : r ≤ 9) (hc : c ≤ 9) : Cr w p loose mean mg mb 14 133 [.ref A.s] (scrD w (A.wPn D) T r c σ) (fun v l => (∃ t', v = .bytes (joined #[59] (lawF σ)) t') ∧ l = []) :=
  cur_F w p loose mean mg mb (A.wPn D) T r c σ O G hr hc
noncomputable def TabsOK : Prop := ∀ (A : SA) (T : ST) (σ : SV) (d c : Addr) (od oc : Obj) (n : Nat), n ≤ 500 → Deck w c n od oc → @LT.lt Nat _ d c → ScrOK w A T 6 σ → (∀ q ∈ scrD w A T 2 6 σ, q.1 ≠ d) → (∀ q ∈ scrD w A T 2 6 σ, q.1 ≠ c) →
  Cq w p loose mean mg mb 14 1340 [.ref d, .ref A.s] ([(d, od), (c, oc)] ++ scrD w A T 2 6 σ) (fun v l => v = .bool true ∧ l = [])
end
section
variable {w : World} {p : Program} {loose : List Str} {mean : ExcName → Option Value} {mg mb : Str → Option Value} {news : Led} {dp un : Nat} {gd : Option (List Code)} {cn : Str} {cs : Scope} {a : Addr} {ccd : Value} {cl : List (Str × Addr)} {outer : List Env} {A₀ : Around} {base h₀ : Heap} {L : Addr} {m : Str → Option Value} {s : Shared} {Q E : Value → Shared → Prop} {Bs : List Led}
theorem tabs_blk {A : SA} {D d c : Addr} {T : ST} {σ : SV} {n : Nat} {od oc : Obj} {rs1 rs2 : List Led} {g1 g2 : Led → List Led} (HT : TabsOK w p loose mean mg mb) (O : ScrOK w (A.wPn D) T 6 σ) (Dk : Deck w c n od oc) (hn : n ≤ 500) (hdc : @LT.lt Nat _ d c) (K1 : At [(d, od), (c, oc)] Bs rs1 g1) (K2 : At (scrD w (A.wPn D) T 2 6 σ) rs1 rs2 g2)
    (S : Sep Bs) (hs : ∀ q ∈ flat Bs, q ∈ news) (B : Below A₀ base outer h₀) (F : Fr h₀ L s.heap m) (X : (KK w.params).In h₀) (N : News h₀ L s.heap news) (T' : Top p loose mean mg mb h₀) (hk : cs.kind = .function) (hd : dp + 14 < recursionLimit) (hu : un + 100 * 14 < cLine)
    (r : Sep rs2 → ∀ h' tk', Fr h₀ L h' m → News h₀ L h' (flat rs2) → Q (.bool true) { s with heap := h', toks := tk' }) :
    wpAny (model pw w) (ktrTop dp un gd cn cs L a ccd cl outer) (call (.ref 1340) [.ref d, .ref A.s]) Q E s := by
  have ap : Apart [(d, od), (c, oc)] (scrD w (A.wPn D) T 2 6 σ) := Apart.mono (K1.dis S) fun p hp => K2.sub p (List.mem_append_left _ hp)
  refine Cq.blk2 (HT (A.wPn D) T σ d c od oc n hn Dk hdc O (fun q hq => ap q hq (d, od) (.head _)) (fun q hq => ap q hq (c, oc) (.tail _ (.head _)))) K1 K2 S hs B F X N T' hk hd hu ?_
  rintro v l ⟨rfl, rfl⟩ S' h' tk' F' N'
  exact r S'.2 h' tk' F' N'
end
end
section
noncomputable abbrev tdS (w : World) (cc : Int) (tc t0 t1 : Tok) (st : Addr) : Obj := dictOf [en w "columns" t0 (.int cc tc), en w "stops" t1 (.ref st)] 2
local macro_rules | `(tactic| k_lt $h:ident) => `(tactic| clear $h)
theorem kw_WTset_0 : True := by
  k_with "z56" => skip
  k_with "my setItem ref int" => ((fail_if_success k_extra "z58"); ((k_here; k_dflt (refine' kda_set (knd := PySem.intKind _ _) ?F_198 ?N_198 ?U_198 ?d_198 (intKind_is _ _ _ _) ?z_198 ?_; (case F_198 => k_asm); (case N_198 => k_asm); (case U_198 => k_updF); (case d_198 => k_asm); (case z_198 => exact Nat.le_trans (by assumption) (by decide))); intro h' o' F' N' hd'; (try dsimp only at N'))))
  trivial
set_option maxHeartbeats 1000000 in
theorem tset_ok (w : World) (p : Program) (loose : List Str) (mean : ExcName → Option Value) (mg mb : Str → Option Value) (g td st : Addr) (t0 t1 tc tx : Tok) (cc x : Int) (ost : Obj) (kvs : List (Int × Value)) (hd : ost.IsDictOf (intKind pw w) kvs) (hl : kvs.length ≤ 60) (h0 : 0 ≤ x) (h1 : x < cc) (n1 : @Ne Nat g st) (n2 : @Ne Nat td st) :
    Cq w p loose mean mg mb 4 606 [.ref g, .int x tx] [(g, instObj 673 td), (td, tdS w cc tc t0 t1 st), (st, ost)] (fun v l => v = .none ∧ ∃ ost', l = [(g, instObj 673 td), (td, tdS w cc tc t0 t1 st), (st, ost')] ∧ ost'.IsDictOf (intKind pw w) (stored kvs x (.bool true))) := _root_.id <| by
  k_dflt (refine' Cq.of_body (binds := [(("self" : Str), .ref g), (("column" : Str), .int x tx)]) ?k6 ?k7 ?k9 ?kB ?c2 ?c3 ?c4 ?c5 ?_; (case k6 => k_is); (case k7 => k_is); (case k9 => exact rfl); (case kB => exact locs rfl); (case c2 => exact rfl); (case c3 => exact rfl); (case c4 => exact rfl); (case c5 => decide))
  intro dp un gd outer A₀ base g L h tk gs dr os Q B X Tp F N lL hd hu hQ
  try k_lt lL
  k_extra "my ks2"
  refine' hQ _ _ [_, _, _] _ _ _ ?ff ?nn ?sub ⟨rfl, _, rfl, by assumption⟩
  case ff => assumption
  case nn => assumption
  case sub => (try simp only [List.cons_append, List.nil_append]); kcf_all
end
section
theorem kw_WTput_0 : True := by
  k_with "z58" => skip
  k_with "my kfold" => ((fail_if_success k_extra "z59"); skip)
  k_with "my kf" => ((fail_if_success k_extra "z59"); (k_extra "my kclose"))
  trivial
noncomputable def putK (ns : List Int) : List (Int × Value) := ns.foldl (fun kvs n => stored kvs n (.bool true)) []
theorem putK_take {ns : List Int} {i : Nat} {n : Int} (h : ns[i]? = some n) : putK (ns.take (i + 1)) = stored (putK (ns.take i)) n (.bool true) := by
  unfold putK
  rw [List.take_add_one, h]
  simp
theorem stored_len {kvs : List (Int × Value)} {n : Int} {v : Value} : (stored kvs n v).length ≤ kvs.length + 1 := by
  unfold stored
  split <;> simp
theorem putK_len : ∀ (ns : List Int), (putK ns).length ≤ ns.length := by
  have h : ∀ (ns : List Int) (kvs : List (Int × Value)), (ns.foldl (fun kvs n => stored kvs n (.bool true)) kvs).length ≤ kvs.length + ns.length := by
    intro ns
    induction ns with
    | nil => exact fun kvs => Nat.le_refl _
    | cons n ns ih =>
      intro kvs
      have a := ih (stored kvs n (.bool true))
      have b := stored_len (kvs := kvs) (n := n) (v := .bool true)
      simp only [List.foldl_cons, List.length_cons]
      omega
  intro ns
  have := h ns []
  rw [List.length_nil, Nat.zero_add] at this
  exact this
noncomputable abbrev putL (w : World) (g td st q : Addr) (cc : Int) (tc t0 t1 : Tok) (vs : List Value) (k : Nat) (ost : Obj) : Led := [(g, instObj 673 td), (td, tdS w cc tc t0 t1 st), (st, ost), (q, W.listOf vs.toArray k)]
noncomputable def PutJ (w : World) (g td st q : Addr) (cc : Int) (tc t0 t1 : Tok) (vs : List Value) (k : Nat) (ns : List Int) (i : Nat) (m : Str → Option Value) (nx : Led) : Prop :=
  m (Str.ofString "self") = some (.ref g) ∧ ∃ ost, nx = putL w g td st q cc tc t0 t1 vs k ost ∧ ost.IsDictOf (intKind pw w) (putK (ns.take i))
section
variable {w : World} {A : Around} {E : Value → Shared → Prop} {s : Shared} {env : Env} {h₀ : Heap} {x : PySem.Str} {body : List Stmt} {Q : Flow → Shared → Prop} {m₀ : PySem.Str → Option Value}
theorem put_loop {g td st q : Addr} {cc : Int} {tc t0 t1 : Tok} {vs : List Value} {k : Nat} {ns : List Int} {ost : Obj} (hx : x ≠ Str.ofString "self") (hh : A.handled = none) (hI : IntsAre vs ns) (hl : ns.length ≤ 60) (F : Fr h₀ env.locals s.heap m₀) (N : News h₀ env.locals s.heap (putL w g td st q cc tc t0 t1 vs k ost)) (hm : m₀ (Str.ofString "self") = some (.ref g)) (hd : ost.IsDictOf (intKind pw w) [])
    (turn : ∀ i n t ost₁ (m₁ : Str → Option Value) h tk own, n ∈ ns → ns[i]? = some n → OwnOff own [g, td, st, q] → ost₁.IsDictOf (intKind pw w) (putK (ns.take i)) → (putK (ns.take i)).length ≤ 60 → Fr h₀ env.locals h (fun y => if y = x then some (.int n t) else if y = Str.ofString "self" then some (.ref g) else m₁ y) → News h₀ env.locals h ((g, instObj 673 td) :: (td, tdS w cc tc t0 t1 st) :: (st, ost₁) :: (q, W.listOf vs.toArray k) :: own) →
      wpAny (model pw w) A (execs body env) (InvPostN h₀ env.locals (fun m' nx => (q, W.listOf vs.toArray k) ∈ nx ∧ PutJ w g td st q cc tc t0 t1 vs k ns (i + 1) m' nx) own [g, td, st, q] { s with heap := h, toks := tk } Q) E { s with heap := h, toks := tk })
    (done : ∀ ost₁ (m₁ : Str → Option Value) h tk, ost₁.IsDictOf (intKind pw w) (putK ns) → Fr h₀ env.locals h m₁ → News h₀ env.locals h (putL w g td st q cc tc t0 t1 vs k ost₁) → Q .next { s with heap := h, toks := tk }) :
    wpAny (model pw w) A (pyIter (.ref q)) (fun it s₂ => LoopAtV pw w A h₀ env x body Q E it s₂) E s := by
  refine iter_invNL (PutJ w g td st q cc tc t0 t1 vs k ns) hh (.tail _ (.tail _ (.tail _ (.head _)))) hI F N ⟨hm, ost, rfl, by simpa [putK] using hd⟩ ?_ ?_
  · rintro i n t m₁ news₁ h tk own hi _ hoff _ ⟨hs, ost₁, rfl, hd₁⟩ F₁ N₁
    have e : m₁ = fun y => if y = Str.ofString "self" then some (.ref g) else m₁ y := by
      funext y
      split
      · next e => rw [e]; exact hs
      · rfl
    rw [e] at F₁
    have := putK_len (ns.take i)
    rw [List.length_take] at this
    exact turn i n t ost₁ m₁ h tk own (List.mem_of_getElem? hi) hi hoff hd₁ (by omega) F₁ N₁
  · rintro m₁ news₁ h tk _ ⟨_, ost₁, rfl, hd₁⟩ F₁ N₁
    rw [List.take_length] at hd₁
    exact done ost₁ m₁ h tk hd₁ F₁ N₁
theorem put_end {h' : Heap} {L g td st q : Addr} {cc : Int} {tc t0 t1 : Tok} {vs : List Value} {k i tk : Nat} {ns : List Int} {n : Int} {ost : Obj} {own : Led} {m : Str → Option Value} {s₁ : Shared} (hi : ns[i]? = some n) (F : Fr h₀ L h' m) (N : News h₀ L h' ((g, instObj 673 td) :: (td, tdS w cc tc t0 t1 st) :: (st, ost) :: (q, W.listOf vs.toArray k) :: own)) (hm : m (Str.ofString "self") = some (.ref g)) (hd : ost.IsDictOf (intKind pw w) (stored (putK (ns.take i)) n (.bool true))) :
    InvEndN h₀ L (fun m' nx => (q, W.listOf vs.toArray k) ∈ nx ∧ PutJ w g td st q cc tc t0 t1 vs k ns (i + 1) m' nx) own [g, td, st, q] s₁ { s₁ with heap := h', toks := tk } :=
  InvEndN.intro (nx := putL w g td st q cc tc t0 t1 vs k ost) F N ⟨.tail _ (.tail _ (.tail _ (.head _))), hm, ost, rfl, by rw [putK_take hi]; exact hd⟩ rfl (fun p hp => by
    simp only [List.mem_cons, List.not_mem_nil, or_false] at hp
    rcases hp with rfl | rfl | rfl | rfl
    · exact .head _
    · exact .tail _ (.head _)
    · exact .tail _ (.tail _ (.head _))
    · exact .tail _ (.tail _ (.tail _ (.head _)))) fun p hp => .tail _ (.tail _ (.tail _ (.tail _ hp)))
end
theorem in_lo {ns : List Int} {n cc : Int} (hn : ∀ n ∈ ns, 0 ≤ n ∧ n < cc) (h : n ∈ ns) : 0 ≤ n := (hn n h).1
theorem in_hi {ns : List Int} {n cc : Int} (hn : ∀ n ∈ ns, 0 ≤ n ∧ n < cc) (h : n ∈ ns) : n < cc := (hn n h).2
theorem own_apart {own : Led} {g td st q : Addr} {o1 o2 o3 o4 : Obj} (h : OwnOff own [g, td, st, q]) (n1 : @Ne Nat q g) (n2 : @Ne Nat q td) (n3 : @Ne Nat q st) : Apart [(g, o1), (td, o2), (st, o3)] ((q, o4) :: own) := by
  intro p hp r hr
  simp only [List.mem_cons, List.not_mem_nil, or_false] at hr
  rcases List.mem_cons.mp hp with rfl | hp
  · rcases hr with rfl | rfl | rfl
    · exact n1
    · exact n2
    · exact n3
  · rcases hr with rfl | rfl | rfl
    · exact h p hp _ (.head _)
    · exact h p hp _ (.tail _ (.head _))
    · exact h p hp _ (.tail _ (.tail _ (.head _)))
theorem kw_WTput_1 : True := by
  k_with "my exec For Name Name cons nil" => ((fail_if_success k_extra "z59"); ((k_here; (rename Fr _ _ _ _ => lF'); (with_unfolding_all refine' For_invVF lF' ?k1_200 ?k2_200 ?_; (case k1_200 => exact rfl); (case k2_200 => exact rfl); k_whole))))
  k_with "my pyIter ref" => ((fail_if_success k_extra "z59"); ((k_here; k_dflt ((rename Fr _ _ _ _ => lF'); (rename News _ _ _ _ => lN'); (rename IntsAre _ _ => lI'); (refine put_loop (s := ⟨_, _, _, _, _⟩) (by decide) (by rfl) lI' (by assumption) lF' (News.sub lN' (by kcf_all)) (by rfl) (by assumption) ?_ ?_); clear lF' lN'); (all_goals intros))))
  k_with "my call ref" => ((fail_if_success k_extra "z59"); ((k_here; (with_reducible show wpAny _ _ (call (Value.ref 606) _) _ _ _); (rename Fr _ _ _ _ => lF'); (rename News _ _ _ _ => lN'); k_dflt (refine Cq.use _ (tset_ok _ _ _ _ _ _ _ _ _ _ _ _ _ _ _ _ _ (by assumption) (by assumption) (in_lo (by assumption) (by assumption)) (in_hi (by assumption) (by assumption)) (by omega) (by omega)) (own_apart (by assumption) (by omega) (by omega) (by omega)) (fun _ h => h) (by assumption) lF' (by assumption) lN' (by assumption) rfl (by ktr_room) (by ktr_units) ?_); (clear lF' lN'); intro v1 l1 P1 ap1 h' tk' F' N'; (clear ap1); (obtain ⟨e1, o1, e2, d1⟩ := P1); (subst e1); (subst e2))))
  k_with "my InvEndN" => ((fail_if_success k_extra "z59"); ((k_dflt (exact put_end (by assumption) (by assumption) (by assumption) rfl (by assumption)))))
  trivial
set_option maxHeartbeats 1000000 in
theorem tput_ok (w : World) (p : Program) (loose : List Str) (mean : ExcName → Option Value) (mg mb : Str → Option Value) (g td st q : Addr) (t0 t1 tc : Tok) (cc : Int) (vs : List Value) (ns : List Int) (k : Nat) (hI : IntsAre vs ns) (hl : ns.length ≤ 60) (hn : ∀ n ∈ ns, 0 ≤ n ∧ n < cc) (n1 : @Ne Nat g td) (n2 : @Ne Nat q g) (n3 : @Ne Nat q td) :
    Cq w p loose mean mg mb 6 641 [.ref g, .ref q] [(g, instObj 673 td), (td, tdS w cc tc t0 t1 st), (q, W.listOf vs.toArray k)] (fun v l => v = .none ∧ ∃ st' ost' t1', l = [(g, instObj 673 td), (td, tdS w cc tc t0 t1' st'), (st', ost')] ∧ ost'.IsDictOf (intKind pw w) (putK ns) ∧ @LT.lt Nat _ td st' ∧ @LT.lt Nat _ g st') := _root_.id <| by
  k_dflt (refine' Cq.of_body (binds := [(("self" : Str), .ref g), (("columns" : Str), .ref q)]) ?k6 ?k7 ?k9 ?kB ?c2 ?c3 ?c4 ?c5 ?_; (case k6 => k_is); (case k7 => k_is); (case k9 => exact rfl); (case kB => exact locs rfl); (case c2 => exact rfl); (case c3 => exact rfl); (case c4 => exact rfl); (case c5 => decide))
  intro dp un gd outer A₀ base gR L h tk gs dr os Q B X Tp F N lL hd hu hQ
  revert hI hl hn n1 n2 n3 B X Tp F N lL hd hu hQ
  revert w p loose mean mg mb g td st q t0 t1 tc cc vs ns k dp un gd outer A₀ base gR L h tk gs dr os Q
  k_extra "my d14"; intros w p loose mean mg mb g td st q t0 t1 tc cc; k_extra "my of"
  k_extra "my d14"; intros vs ns k dp un gd outer A₀ base gR L h tk gs; k_extra "my of"
  k_extra "my d3"; intros dr os Q; k_extra "my of"
  intros hI hl hn n1 n2 n3 B X Tp F N lL hd hu hQ
  haveI mk : Mark := Mark.mk
  try k_lt lL
  k_extra "my kclose"
  k_extra "my ks2"
  rename News _ _ _ _ => lN
  refine' hQ _ _ [_, _, _] _ _ _ ?ff (News.sub lN ?su) ?sub ⟨rfl, _, _, _, rfl, by assumption, by assumption, by assumption⟩
  case ff => assumption
  case su => exact fun p hp => hp
  case sub => kcf_all
end
section
theorem kw_WTrep_0 : True := by
  k_with "z59" => skip
  k_with "my kfold" => ((fail_if_success k_extra "z60"); skip)
  k_with "my kf" => ((fail_if_success k_extra "z60"); (k_extra "my kclose"))
  trivial
open PySem.Builtin.Bytes (joined)
noncomputable def Nums (ps : List (Array UInt8)) (os : List (Option Int)) : Prop := ps.length = os.length ∧ ∀ (i : Nat) (f : Array UInt8), ps[i]? = some f → ∃ o, os[i]? = some o ∧ NumF f o
noncomputable def ShAll (ys : List Value) (os : List (Option Int)) : Prop := ys.length = os.length ∧ ∀ (i : Nat) (y : Value), ys[i]? = some y → ∃ o, os[i]? = some o ∧ ShIs y o
theorem ShAll.ints {ys : List Value} {ns : List Int} (h : ShAll ys (ns.map some)) : IntsAre ys ns := ints_of (by rw [h.1, List.length_map]) fun i v e => by
  obtain ⟨o, ho, hs⟩ := h.2 i v e
  rw [List.getElem?_map] at ho
  cases q : ns[i]? with
  | none => rw [q] at ho; cases ho
  | some x =>
    rw [q] at ho
    cases ho
    obtain ⟨t, rfl⟩ := (show ∃ t, v = .int x t from hs)
    exact ⟨x, t, rfl, rfl⟩
section
variable {prog : Program} {w : World} {A : Around} {E : Value → Shared → Prop} {h₀ : Heap} {L : Addr} {m : Str → Option Value} {env : Env} {elt : PySem.Expr} {x : Str} {scope : Scope} {cl : List (Str × Addr)} {s : Shared} {S : Led → Prop} {Fin : List Value → Led → Prop} {news : Led}
theorem cx_nums {its : List (Array UInt8 × Tok)} {ps : List (Array UInt8)} {os : List (Option Int)} (e : its.map (·.1) = ps) (hn : Nums ps os)
    (turn : ∀ (f : Array UInt8) (t : Tok) (o : Option Int) I oI C oC D m₂ ys h tk (E' : Value → Shared → Prop), NumF f o → LCg.NsObj oC m₂ → m₂ x = some (.bytes f t) → Fr h₀ L h m → News h₀ L h ((I, oI) :: (C, oC) :: (D, LCg.lst ys) :: news) → LCg.Off3 I C D news → ((@Ne Nat I C) ∧ (@Ne Nat I D) ∧ (@Ne Nat C D)) →
      wpAny (model prog w) A (eval elt (compEnvC scope cl C env)) (LCg.CompEnd h₀ L m { s with heap := h, toks := tk } I oI C oC D (LCg.lst ys) S (fun y news' => CXEl news (fun y => ShIs y o) y news')) E' { s with heap := h, toks := tk })
    (fin : ∀ ys, ShAll ys os → Fin ys news) : LCg.CompRest prog w A h₀ L m env elt x scope cl s S (fun i v => (bys its).toArray[i]? = some v) Fin (bys its).toArray.size 0 [] news := by
  have hl : (bys its).length = os.length := by unfold bys; rw [List.length_map, ← hn.1, ← e, List.length_map]
  refine cx_list (fun i y => ∃ o, os[i]? = some o ∧ ShIs y o) (fun i v I oI C oC D m₂ ys h tk E' hi hC hx F N off ne => ?_) fun ys hys hR => fin ys ⟨by rw [hys, hl], hR⟩
  have : ∃ f t o, v = .bytes f t ∧ NumF f o ∧ os[i]? = some o := by
    unfold bys at hi
    simp only [List.getElem?_toArray, List.getElem?_map] at hi
    cases q : its[i]? with
    | none => rw [q] at hi; cases hi
    | some p =>
      rw [q] at hi
      cases hi
      obtain ⟨o, ho, hf⟩ := hn.2 i p.1 (by rw [← e, List.getElem?_map, q]; rfl)
      exact ⟨_, _, o, rfl, hf, ho⟩
  obtain ⟨f, t, o, rfl, hf, ho⟩ := this
  refine wpAny_mono (turn f t o I oI C oC D m₂ ys h tk E' hf hC hx F N off ne) (fun y s₂ hq => ?_) fun _ _ e => e
  obtain ⟨h', tk', nw, e, F', N', off', hS, hn', hy⟩ := hq
  exact ⟨h', tk', nw, e, F', N', off', hS, hn', o, ho, hy⟩
theorem sh_size {ys : List Value} {os : List (Option Int)} (h : ShAll ys os) (hl : os.length ≤ 60) : ys.toArray.size ≤ sizeLine := by
  rw [List.size_toArray, h.1]
  exact Nat.le_trans hl (by decide)
theorem notin_none {Q : Value → Shared → Prop} {D : Addr} {ys : List Value} {os : List (Option Int)} (N : News h₀ L s.heap news) (hm : (D, LCg.lst ys) ∈ news) (h : ShAll ys os) (r : Bool) (hr : os.any Option.isNone = r) (q : Q (.bool (!r)) s) : wpAny (model prog w) A (compareOp .NotIn .none (.ref D)) Q E s := by
  have e : ys.any isN = r := by
    rw [← hr]
    cases z : os.any Option.isNone with
    | true =>
      obtain ⟨o, ho, hn⟩ := List.any_eq_true.mp z
      obtain ⟨i, hi⟩ := List.getElem?_of_mem ho
      have hlt : i < ys.length := by rw [h.1]; exact (List.getElem?_eq_some_iff.mp hi).1
      obtain ⟨o', ho', hs⟩ := h.2 i ys[i] (List.getElem?_eq_getElem hlt)
      rw [hi] at ho'
      cases ho'
      exact List.any_eq_true.mpr ⟨ys[i], List.getElem_mem hlt, by rw [isN_sh hs]; exact hn⟩
    | false =>
      refine List.any_eq_false.mpr fun y hy => ?_
      obtain ⟨i, hi⟩ := List.getElem?_of_mem hy
      obtain ⟨o, ho, hs⟩ := h.2 i y hi
      rw [isN_sh hs]
      exact List.any_eq_false.mp z o (List.mem_of_getElem? ho)
  subst e
  have z := SeqAt.notIn_listAt (E := E) (Q := Q) (prog := prog) (w := w) (A := A) (x := .none) isN (News.isList N hm) (fun y hy => by
    obtain ⟨i, hi⟩ := List.getElem?_of_mem (Array.mem_toList_iff.mpr hy)
    obtain ⟨o, _, hs⟩ := h.2 i y hi
    exact eqn_sh hs)
  refine z ?_
  rw [List.any_toArray]
  exact q
end
theorem kw_WTrep_1 : True := by
  k_with "my call ref" => ((fail_if_success k_extra "z60"); ((k_here; (with_reducible show wpAny _ _ (call (Value.ref 76) _) _ _ _); k_dflt (refine' Cr.use (num_all _ _ _ _ _ _ _ ?p1_205) (List.forall_mem_nil _) ?B_205 ?F_205 ?X_205 ?N_205 ?T_205 ?hk_205 ?hd_205 ?hu_205 ?_; (case N_205 => k_asm); (case p1_205 => assumption); (case B_205 => assumption); (case F_205 => k_asm); (case X_205 => assumption); (case T_205 => assumption); (case hk_205 => rfl); (case hd_205 => ktr_room); (case hu_205 => ktr_units)); intro v1 l1 P1 ap1 h' tk' F' N'; (obtain ⟨V1, e2⟩ := P1); (subst e2); (try simp only [List.nil_append] at N'))))
  k_with "my eval ListComp" => ((fail_if_success k_extra "z60"); ((k_here; (with_reducible show wpAny _ _ (eval (PySem.Expr.ListComp _ [⟨_, _, [], _⟩] _ _) _) _ _ _); k_dflt (refine LCg.ListComp_U (F₀ := by k_asm) (by rfl) (by decide) (by rfl) (by decide) (by rfl) ?_))))
  k_with "my CompSrc" => ((fail_if_success k_extra "z60"); ((k_here; k_dflt (refine LCg.CompSrc.ledger (by rfl) (by k_asm) (by k_asm) (by k_mem) (by (rw [List.size_toArray, bys_len]); assumption) ?_; intro g'; (refine' cx_nums (by assumption) (by assumption) (fun f' t' o' I' oI' C' oC' D' m' ys' h' tk' E' hv' hC' hx' F' N' off' ne' => ?_) ?_); (all_goals (try (simp only [LCg.Off3, and_true] at off'))); kcf_last))))
  k_with "my CompEnd" => ((fail_if_success k_extra "z60"); ((k_here; (with_reducible show LCg.CompEnd _ _ _ _ _ _ _ _ _ _ _ (fun _ _ => CXEl _ _ _ _) _ _); k_dflt (refine cx_end (by assumption) (by assumption) (by kcf_all) (by first | assumption | (simp only [LCg.Off3, and_true]; done) | (simp only [LCg.Off3, and_true]; assumption)) (by first | lcg_src | assumption | exact True.intro) (by assumption)))))
  k_with "my getMethod bytes" => ((fail_if_success k_extra "z60"); ((k_here; (with_reducible refine meth_split ?_))))
  trivial
theorem its_sz {its : List (Array UInt8 × Tok)} {ps : List (Array UInt8)} {os : List (Option Int)} (e : its.map (·.1) = ps) (hn : Nums ps os) (hl : os.length ≤ 60) : its.length ≤ sizeLine := by
  rw [← List.length_map (f := (·.1)), e, hn.1]
  exact Nat.le_trans hl (by decide)
theorem kw_WTrep_2 : True := by
  k_with "my call builtin:bytes.split" => ((fail_if_success k_extra "z60"); ((k_here; k_dflt ((refine bytes_split2 (s := ⟨_, _, _, _, _⟩) _ (by k_asm) (by k_asm) (by assumption) ?_); intro D' l' h' tk' hl' F' N' l1; (have hz' := its_sz hl' (by assumption) (by assumption)); (try k_lt l1)))))
  k_with "my compareOp NotIn" => ((fail_if_success k_extra "z60"); ((k_here; (with_reducible show wpAny _ _ (compareOp _ Value.none (Value.ref _)) _ _ _); k_dflt (refine notin_none (s := ⟨_, _, _, _, _⟩) (by k_asm) (by k_mem) (by assumption) _ (by assumption) ?_))))
  trivial
theorem ne_nil {prog : Program} {w : World} {AA : Around} {E : Value → Shared → Prop} {s : Shared} {b : Array UInt8} {t u : Tok} {Q : Value → Shared → Prop} (h : b.toList ≠ []) (r : Q (.bool true) s) : wpAny (model prog w) AA (compareOp .NotEq (.bytes b t) (.bytes (List.toArray []) u)) Q E s := by
  refine ne_bytes ?_
  rw [show (b.toList != (List.toArray ([] : List UInt8)).toList) = true from bne_iff_ne.mpr h]
  exact r
theorem kw_WTrep_3 : True := by
  k_with "my compareOp NotEq bytes bytes" => ((fail_if_success k_extra "z60"); ((k_here; k_dflt (refine ne_nil (by assumption) ?_))))
  trivial
set_option maxHeartbeats 1000000 in
theorem rt_none (w : World) (p : Program) (loose : List Str) (mean : ExcName → Option Value) (mg mb : Str → Option Value) (s : Addr) (o : Obj) (b : Array UInt8) (tb : Tok) (ps : List (Array UInt8)) (os : List (Option Int)) (C : Cuts b 47 ps) (hne : b.toList ≠ []) (hn : Nums ps os) (hl : os.length ≤ 60) (ha : os.any Option.isNone = true) :
    Cr w p loose mean mg mb 8 157 [.ref s, .bytes b tb] [(s, o)] (fun v l => v = .none ∧ l = []) := _root_.id <| by
  k_dflt (refine' Cr.of_bodyC (binds := [(("screen" : Str), .ref s), (("octets" : Str), .bytes b tb)]) ?k6 ?k7 ?k9 ?kB ?kD ?c2 ?c3 ?c4 ?_; (case k6 => k_is); (case k7 => k_is); (case k9 => exact rfl); (case kB => exact rfl); (case kD => decide +kernel); (case c2 => exact rfl); (case c3 => exact rfl); (case c4 => exact rfl))
  intro dp un gd outer A₀ base g L h tk gs dr osR cells Q B X Tp F N Y lL hd hu hQ
  revert C hne hn hl ha B X Tp F N Y lL hd hu hQ
  revert w p loose mean mg mb s o b tb ps os dp un gd outer A₀ base g L h tk gs dr osR cells Q
  k_extra "my d14"; intros w p loose mean mg mb s o b tb ps os dp un; k_extra "my of"
  k_extra "my d8"; intros gd outer A₀ base g L h tk; k_extra "my of"
  k_extra "my d5"; intros gs dr osR cells Q; k_extra "my of"
  intros C hne hn hl ha B X Tp F N Y lL hd hu hQ
  haveI mk : Mark := Mark.mk
  (try k_lt lL)
  k_cells Y
  (try simp only [List.cons_append, List.nil_append] at N)
  (try dsimp only)
  k_extra "my kclose"
  k_extra "my ks2"
  refine' hQ _ _ [] _ _ _ ?ff ?nn ?sub ?ap ⟨rfl, rfl⟩
  case ff => assumption
  case nn => assumption
  case sub => (try simp only [List.cons_append, List.nil_append]); kcf_all
  case ap => exact List.forall_mem_nil _
noncomputable def cutK (cc : Int) (ns : List Int) : List Int := ns.foldl (fun l k => if 1 ≤ k ∧ k ≤ cc then l ++ [k - 1] else l) []
theorem cutK_in {cc : Int} {ns : List Int} : ∀ n ∈ cutK cc ns, 0 ≤ n ∧ n < cc := by
  have h : ∀ (ns l : List Int), (∀ n ∈ l, 0 ≤ n ∧ n < cc) → ∀ n ∈ ns.foldl (fun l k => if 1 ≤ k ∧ k ≤ cc then l ++ [k - 1] else l) l, 0 ≤ n ∧ n < cc := by
    intro ns
    induction ns with
    | nil => exact fun l h => h
    | cons k ns ih =>
      intro l h
      refine ih _ ?_
      dsimp only
      split
      · intro n hn
        rcases List.mem_append.mp hn with hn | hn
        · exact h n hn
        · rw [List.mem_singleton.mp hn]
          omega
      · exact h
  exact h ns [] (fun n hn => nomatch hn)
theorem cutK_grows (cc : Int) : KPfGrows (fun l k => if 1 ≤ k ∧ k ≤ cc then l ++ [k - 1] else l) := by
  intro l k
  dsimp only
  split
  · rw [List.length_append, List.length_singleton]; exact Nat.le_refl _
  · omega
theorem cutK_len {cc : Int} {ns : List Int} : (cutK cc ns).length ≤ ns.length := by
  have := kpf_len (cutK_grows cc) ns []
  rw [List.length_nil, Nat.zero_add] at this
  exact this
theorem cut_size {ys : List Value} {os : List (Option Int)} (h : ShAll ys os) (hl : os.length ≤ 60) : ys.toArray.size ≤ sizeLine := sh_size h hl
theorem map_len {cc : Int} {ns : List Int} (h : (ns.map some).length ≤ 60) : (cutK cc ns).length ≤ 60 := Nat.le_trans cutK_len (by rw [List.length_map] at h; exact h)
theorem kw_WTrep_4 : True := by
  k_with "my eval ListComp" => ((fail_if_success k_extra "z60"); ((k_here; (with_reducible show wpAny _ _ (eval (PySem.Expr.ListComp _ [⟨_, _, [_], _⟩] _ _) _) _ _ _); k_dflt (refine LCt.ListComp_T (F₀ := by k_asm) (by rfl) (by decide) (by rfl) (by decide) (by rfl) ?_))))
  k_with "my CompSrcT" => ((fail_if_success k_extra "z60"); ((k_here; k_dflt (refine LCt.CompSrcT.ledger (by rfl) (by k_asm) (by k_asm) (by k_mem) (sh_size (by assumption) (by assumption)) ?_; intro g'; (refine' kci_list _ (ShAll.ints (by assumption)) (fun k' t' I' oI' C' oC' D' m' ys' l' h' tk' E' hk' hI' hC' hx' F' N' off' ne' => ?_) ?_ (cutK_grows 6)); (all_goals (try (simp only [LCg.Off3, and_true] at off'))); (all_goals (try ((show KPfMark → _); intro hMark'))); kcf_last))))
  trivial
section
variable {h₀ h' : Heap} {L I C D : Addr} {m : Str → Option Value} {s₁ : Shared} {oI oC oD : Obj} {S : Led → Prop} {all news : Led} {tk : Nat} {a : Int} {t : Tok} {l r : List Int}
theorem cti_el (F : Fr h₀ L h' m) (N : News h₀ L h' all) (sub : ∀ p ∈ (I, oI) :: (C, oC) :: (D, oD) :: news, p ∈ all) (off : LCg.Off3 I C D news) (hS : S news) (e : r = l ++ [a]) :
    LCg.CompEnd h₀ L m s₁ I oI C oC D oD S (fun y news' => KCiEl news l r y news') (.int a t) { s₁ with heap := h', toks := tk } := LCg.CompEnd.intro F N news sub off hS (kci_el e rfl rfl)
theorem cti_no {y : Value} (F : Fr h₀ L h' m) (N : News h₀ L h' all) (sub : ∀ p ∈ (I, oI) :: (C, oC) :: (D, oD) :: news, p ∈ all) (off : LCg.Off3 I C D news) (hS : S news) (e : r = l) :
    LCg.CompEnd h₀ L m s₁ I oI C oC D oD S (fun _ news' => KCiNo news l r news') y { s₁ with heap := h', toks := tk } := LCg.CompEnd.intro F N news sub off hS (kci_no e rfl)
end
theorem kw_WTrep_5 : True := by
  k_with "my OffS" => ((fail_if_success k_extra "z60"); (first | assumption | (simp only [LCg.Off3, and_true]; done) | (simp only [LCg.Off3, and_true]; assumption)))
  k_with "my CompEnd" => ((fail_if_success k_extra "z60"); ((k_here; (with_reducible show LCg.CompEnd _ _ _ _ _ _ _ _ _ _ _ (fun _ _ => KCiEl _ _ _ _ _) _ _); k_dflt (exact cti_el (by assumption) (by assumption) (by kcf_all) (by k_extra "my OffS") (by first | lcg_src | assumption | exact True.intro) (if_pos ⟨by assumption, by assumption⟩)))))
  k_with "my CompEnd" => ((fail_if_success k_extra "z60"); ((k_here; (with_reducible show LCg.CompEnd _ _ _ _ _ _ _ _ _ _ _ (fun _ _ => KCiNo _ _ _ _) _ _); k_dflt (exact cti_no (by assumption) (by assumption) (by kcf_all) (by k_extra "my OffS") (by first | lcg_src | assumption | exact True.intro) (if_neg (fun h => by first | exact absurd h.1 (by assumption) | exact absurd h.2 (by assumption)))))))
  trivial
theorem tput_cut (w : World) (p : Program) (loose : List Str) (mean : ExcName → Option Value) (mg mb : Str → Option Value) (g td st q : Addr) (t0 t1 tc : Tok) (ys : List Value) (ns : List Int) (hI : IntsAre ys (ns.foldl (fun l k => if 1 ≤ k ∧ k ≤ 6 then l ++ [k - 1] else l) [])) (hl : (ns.map some).length ≤ 60) (n1 : @Ne Nat g td) (n2 : @Ne Nat q g) (n3 : @Ne Nat q td) :
    Cq w p loose mean mg mb 6 641 [.ref g, .ref q] [(g, instObj 673 td), (td, tdS w 6 tc t0 t1 st), (q, LCg.lst ys)] (fun v l => v = .none ∧ ∃ st' ost' t1', l = [(g, instObj 673 td), (td, tdS w 6 tc t0 t1' st'), (st', ost')] ∧ ost'.IsDictOf (intKind pw w) (putK (cutK 6 ns)) ∧ @LT.lt Nat _ td st' ∧ @LT.lt Nat _ g st') :=
  tput_ok w p loose mean mg mb g td st q t0 t1 tc 6 ys (cutK 6 ns) _ hI (map_len hl) cutK_in n1 n2 n3
theorem kw_WTrep_6 : True := by
  k_with "my call ref" => ((fail_if_success k_extra "z60"); ((k_here; (with_reducible show wpAny _ _ (call (Value.ref 641) _) _ _ _); (rename Fr _ _ _ _ => lF'); (rename News _ _ _ _ => lN'); k_dflt (refine' Cq.use [(_, instObj 1271 _), (_, scO _ _ _ _ _)] (tput_cut _ _ _ _ _ _ _ _ _ _ _ _ _ _ _ (by assumption) (by assumption) (by assumption) (by omega) (by omega)) ?dis_218 ?hs_218 (by assumption) lF' (by assumption) lN' (by assumption) rfl ?hd_218 ?hu_218 ?_; (case hs_218 => kcf_all); (case dis_218 => ((repeat' (first | exact List.forall_mem_nil _ | (refine List.forall_mem_cons.mpr ⟨?_, ?_⟩))) <;> k_ne)); (case hd_218 => ktr_room); (case hu_218 => ktr_units)); (clear lF' lN'); intro v1 l1 P1 ap1 h' tk' F' N'; (clear ap1); (obtain ⟨e1, st1, o1, u1, e2, d1, lt1, lt2⟩ := P1); (subst e1); (subst e2))))
  trivial
set_option maxHeartbeats 1000000 in
theorem rt_put (w : World) (p : Program) (loose : List Str) (mean : ExcName → Option Value) (mg mb : Str → Option Value) (A : SA) (T : ST) (r : Int) (b : Array UInt8) (tb : Tok) (ps : List (Array UInt8)) (ns : List Int) (C : Cuts b 47 ps) (hne : b.toList ≠ []) (hn : Nums ps (ns.map some)) (hl : (ns.map some).length ≤ 60) (ha : (ns.map some).any Option.isNone = false) (n1 : @Ne Nat A.tg A.td) (m1 : @Ne Nat A.s A.tg) (m2 : @Ne Nat A.s A.td) (m3 : @Ne Nat A.sd A.tg) (m4 : @Ne Nat A.sd A.td) :
    Cq w p loose mean mg mb 10 157 [.ref A.s, .bytes b tb] [(A.s, instObj 1271 A.sd), (A.sd, scO w A T r 6), (A.tg, instObj 673 A.td), (A.td, tdS w 6 T.d2 T.d0 T.d1 A.st)] (fun v l => v = .none ∧ ∃ st' ost' t1', l = [(A.tg, instObj 673 A.td), (A.td, tdS w 6 T.d2 T.d0 t1' st'), (st', ost'), (A.s, instObj 1271 A.sd), (A.sd, scO w A T r 6)] ∧ ost'.IsDictOf (intKind pw w) (putK (cutK 6 ns)) ∧ @LT.lt Nat _ A.td st' ∧ @LT.lt Nat _ A.tg st') := _root_.id <| by
  k_dflt (refine' Cq.of_bodyC (binds := [(("screen" : Str), .ref A.s), (("octets" : Str), .bytes b tb)]) ?k6 ?k7 ?k9 ?kB ?kD ?c2 ?c3 ?c4 ?_; (case k6 => k_is); (case k7 => k_is); (case k9 => exact rfl); (case kB => exact rfl); (case kD => decide +kernel); (case c2 => exact rfl); (case c3 => exact rfl); (case c4 => exact rfl))
  intro dp un gd outer A₀ base g L h tk gs dr os cells Q B X Tp F N Y lL hd hu hQ
  revert C hne hn hl ha n1 m1 m2 m3 m4 B X Tp F N Y lL hd hu hQ
  revert w p loose mean mg mb A T r b tb ps ns dp un gd outer A₀ base g L h tk gs dr os cells Q
  k_extra "my d14"; intros w p loose mean mg mb A T r b tb ps ns dp; k_extra "my of"
  k_extra "my d14"; intros un gd outer A₀ base g L h tk gs dr os cells Q; k_extra "my of"
  intros C hne hn hl ha n1 m1 m2 m3 m4 B X Tp F N Y lL hd hu hQ
  haveI mk : Mark := Mark.mk
  (try k_lt lL)
  k_cells Y
  (try simp only [List.cons_append, List.nil_append] at N)
  (try dsimp only)
  k_extra "my kclose"
  k_extra "my ks2"
  refine' hQ _ _ [_, _, _, _, _] _ _ _ ?ff ?nn ?sub ⟨rfl, _, _, _, rfl, by assumption, by assumption, by assumption⟩
  case ff => assumption
  case nn => assumption
  case sub => (try simp only [List.cons_append, List.nil_append]); kcf_all
theorem eq_nil {prog : Program} {w : World} {AA : Around} {E : Value → Shared → Prop} {s : Shared} {b : Array UInt8} {t u : Tok} {Q : Value → Shared → Prop} (h : b.toList = []) (r : Q (.bool false) s) : wpAny (model prog w) AA (compareOp .NotEq (.bytes b t) (.bytes (List.toArray []) u)) Q E s := by
  refine ne_bytes ?_
  rw [show (b.toList != (List.toArray ([] : List UInt8)).toList) = false by rw [h]; rfl]
  exact r
theorem kw_WTrep_7 : True := by
  k_with "my compareOp NotEq bytes bytes" => ((fail_if_success k_extra "z60"); ((k_here; k_dflt (refine eq_nil (by assumption) ?_))))
  trivial
set_option maxHeartbeats 1000000 in
theorem rt_nil (w : World) (p : Program) (loose : List Str) (mean : ExcName → Option Value) (mg mb : Str → Option Value) (A : SA) (T : ST) (r : Int) (b : Array UInt8) (tb : Tok) (hne : b.toList = []) (hS : ShAll [] (([] : List Int).map some)) (hl : (([] : List Int).map some).length ≤ 60) (ha : (([] : List Int).map some).any Option.isNone = false) (n1 : @Ne Nat A.tg A.td) (m1 : @Ne Nat A.s A.tg) (m2 : @Ne Nat A.s A.td) (m3 : @Ne Nat A.sd A.tg) (m4 : @Ne Nat A.sd A.td) :
    Cq w p loose mean mg mb 10 157 [.ref A.s, .bytes b tb] [(A.s, instObj 1271 A.sd), (A.sd, scO w A T r 6), (A.tg, instObj 673 A.td), (A.td, tdS w 6 T.d2 T.d0 T.d1 A.st)] (fun v l => v = .none ∧ ∃ st' ost' t1', l = [(A.tg, instObj 673 A.td), (A.td, tdS w 6 T.d2 T.d0 t1' st'), (st', ost'), (A.s, instObj 1271 A.sd), (A.sd, scO w A T r 6)] ∧ ost'.IsDictOf (intKind pw w) (putK (cutK 6 [])) ∧ @LT.lt Nat _ A.td st' ∧ @LT.lt Nat _ A.tg st') := _root_.id <| by
  k_dflt (refine' Cq.of_bodyC (binds := [(("screen" : Str), .ref A.s), (("octets" : Str), .bytes b tb)]) ?k6 ?k7 ?k9 ?kB ?kD ?c2 ?c3 ?c4 ?_; (case k6 => k_is); (case k7 => k_is); (case k9 => exact rfl); (case kB => exact rfl); (case kD => decide +kernel); (case c2 => exact rfl); (case c3 => exact rfl); (case c4 => exact rfl))
  intro dp un gd outer A₀ base g L h tk gs dr os cells Q B X Tp F N Y lL hd hu hQ
  revert hne hS hl ha n1 m1 m2 m3 m4 B X Tp F N Y lL hd hu hQ
  revert w p loose mean mg mb A T r b tb dp un gd outer A₀ base g L h tk gs dr os cells Q
  k_extra "my d14"; intros w p loose mean mg mb A T r b tb dp un gd; k_extra "my of"
  k_extra "my d8"; intros outer A₀ base g L h tk gs; k_extra "my of"
  k_extra "my d4"; intros dr os cells Q; k_extra "my of"
  intros hne hS hl ha n1 m1 m2 m3 m4 B X Tp F N Y lL hd hu hQ
  haveI mk : Mark := Mark.mk
  (try k_lt lL)
  k_cells Y
  (try simp only [List.cons_append, List.nil_append] at N)
  (try dsimp only)
  k_extra "my kclose"
  k_extra "my ks2"
  refine' hQ _ _ [_, _, _, _, _] _ _ _ ?ff ?nn ?sub ⟨rfl, _, _, _, rfl, by assumption, by assumption, by assumption⟩
  case ff => assumption
  case nn => assumption
  case sub => (try simp only [List.cons_append, List.nil_append]); kcf_all
end
section
open PySem.Builtin.Bytes (joined)
theorem stored_keys {kvs : List (Int × Value)} {n : Int} {v : Value} : (stored kvs n v).map (·.1) = if n ∈ kvs.map (·.1) then kvs.map (·.1) else kvs.map (·.1) ++ [n] := by
  have e : (kvs.any fun kv => decide (kv.1 = n)) = decide (n ∈ kvs.map (·.1)) := by
    rw [Bool.eq_iff_iff]
    simp only [List.any_eq_true, decide_eq_true_eq, List.mem_map]
  unfold stored
  rw [e]
  by_cases h : n ∈ kvs.map (·.1)
  · rw [decide_eq_true h, if_pos rfl, if_pos h, List.map_map]
    refine List.map_congr_left fun a _ => ?_
    show (if a.1 = n then (a.1, v) else a).1 = a.1
    split <;> rfl
  · rw [decide_eq_false h, if_neg Bool.false_ne_true, if_neg h, List.map_append]
    rfl
theorem keys_put (ns : List Int) : ((putK ns).map (·.1)).Nodup ∧ ∀ n, n ∈ (putK ns).map (·.1) ↔ n ∈ ns := by
  have h : ∀ (ns : List Int) (kvs : List (Int × Value)), (kvs.map (·.1)).Nodup → ((ns.foldl (fun kvs n => stored kvs n (.bool true)) kvs).map (·.1)).Nodup ∧ ∀ n, n ∈ (ns.foldl (fun kvs n => stored kvs n (.bool true)) kvs).map (·.1) ↔ n ∈ kvs.map (·.1) ∨ n ∈ ns := by
    intro ns
    induction ns with
    | nil => exact fun kvs h => ⟨h, fun n => by simp only [List.foldl_nil, List.not_mem_nil, or_false]⟩
    | cons k ns ih =>
      intro kvs h
      have e := stored_keys (kvs := kvs) (n := k) (v := .bool true)
      have hn : ((stored kvs k (.bool true)).map (·.1)).Nodup := by
        rw [e]
        split
        · exact h
        · next q => exact List.nodup_append.mpr ⟨h, List.nodup_cons.mpr ⟨List.not_mem_nil, List.nodup_nil⟩, fun a ha b hb e => q (by rw [← List.mem_singleton.mp hb, ← e]; exact ha)⟩
      refine ⟨(ih _ hn).1, fun n => ?_⟩
      rw [List.foldl_cons, (ih _ hn).2 n, e, List.mem_cons]
      split
      · next q => exact ⟨fun h => h.elim .inl fun h => .inr (.inr h), fun h => h.elim .inl fun h => h.elim (fun h => .inl (h ▸ q)) .inr⟩
      · rw [List.mem_append, List.mem_singleton, or_assoc]
  have := h ns [] List.nodup_nil
  exact ⟨this.1, fun n => by rw [show putK ns = ns.foldl (fun kvs n => stored kvs n (.bool true)) [] from rfl, this.2 n]; simp only [List.map_nil, List.not_mem_nil, false_or]⟩
theorem mem_cut {cc : Int} {ns : List Int} (n : Int) : n ∈ cutK cc ns ↔ n + 1 ∈ ns ∧ 0 ≤ n ∧ n < cc := by
  have h : ∀ (ns l : List Int), n ∈ ns.foldl (fun l k => if 1 ≤ k ∧ k ≤ cc then l ++ [k - 1] else l) l ↔ n ∈ l ∨ (n + 1 ∈ ns ∧ 0 ≤ n ∧ n < cc) := by
    intro ns
    induction ns with
    | nil => exact fun l => by simp only [List.foldl_nil, List.not_mem_nil, false_and, or_false]
    | cons k ns ih =>
      intro l
      rw [List.foldl_cons, ih]
      have e : (n ∈ if 1 ≤ k ∧ k ≤ cc then l ++ [k - 1] else l) ↔ n ∈ l ∨ (n + 1 = k ∧ 0 ≤ n ∧ n < cc) := by
        split
        · rw [List.mem_append, List.mem_singleton]
          exact or_congr_right ⟨fun h => by omega, fun h => by omega⟩
        · exact ⟨.inl, fun h => h.elim id fun h => by omega⟩
      rw [e, List.mem_cons, or_assoc, or_and_right]
  have := h ns []
  unfold cutK
  rw [this]
  simp only [List.not_mem_nil, false_or]
noncomputable abbrev pickK (ns : List Int) (l : List Int) (k : Int) : List Int := if k + 1 ∈ ns then l ++ [k] else l
theorem pick_grows (ns : List Int) : KPfGrows (pickK ns) := by
  intro l k
  unfold pickK
  split
  · rw [List.length_append, List.length_singleton]; exact Nat.le_refl _
  · omega
theorem pick_filter (ns : List Int) (ks l : List Int) : ks.foldl (pickK ns) l = l ++ ks.filter (fun k => decide (k + 1 ∈ ns)) := by
  induction ks generalizing l with
  | nil => simp only [List.foldl_nil, List.filter_nil, List.append_nil]
  | cons k ks ih =>
    rw [List.foldl_cons, ih, List.filter_cons]
    unfold pickK
    by_cases h : k + 1 ∈ ns
    · rw [if_pos h, if_pos (decide_eq_true h), List.append_assoc]; rfl
    · rw [if_neg h, if_neg (by rw [decide_eq_false h]; exact Bool.false_ne_true)]
theorem eq_sorted : ∀ {a b : List Int}, a.Pairwise (fun x y => x < y) → b.Pairwise (fun x y => x < y) → (∀ n, n ∈ a ↔ n ∈ b) → a = b
  | [], [], _, _, _ => rfl
  | [], y :: b, _, _, h => absurd ((h y).mpr (.head _)) List.not_mem_nil
  | x :: a, [], _, _, h => absurd ((h x).mp (.head _)) List.not_mem_nil
  | x :: a, y :: b, ha, hb, h => by
    obtain ⟨ha1, ha2⟩ := List.pairwise_cons.mp ha
    obtain ⟨hb1, hb2⟩ := List.pairwise_cons.mp hb
    have e : x = y := by
      rcases List.mem_cons.mp ((h x).mp (.head _)) with e | h1
      · exact e
      · rcases List.mem_cons.mp ((h y).mpr (.head _)) with e | h2
        · exact e.symm
        · have := ha1 y h2
          have := hb1 x h1
          omega
    subst e
    rw [eq_sorted ha2 hb2 fun n => ⟨fun hn => ?_, fun hn => ?_⟩]
    · rcases List.mem_cons.mp ((h n).mp (.tail _ hn)) with e | h1
      · have := ha1 n hn; omega
      · exact h1
    · rcases List.mem_cons.mp ((h n).mpr (.tail _ hn)) with e | h1
      · have := hb1 n hn; omega
      · exact h1
theorem strict_of {a : List Int} (h : a.Pairwise (fun x y => x ≤ y)) (hn : a.Nodup) : a.Pairwise (fun x y => x < y) := by
  refine List.Pairwise.imp₂ (fun x y h1 h2 => ?_) h hn
  have : x ≠ y := h2
  omega
theorem tabs_law {ns a : List Int} (hp : a.Perm ((putK (cutK 6 ns)).map (·.1))) (hs : a.Pairwise (fun x y => x ≤ y)) : a = (rangeKs 0 6).foldl (pickK ns) [] := by
  have hk := keys_put (cutK 6 ns)
  rw [pick_filter, List.nil_append]
  refine eq_sorted (strict_of hs (hp.nodup_iff.mpr hk.1)) (List.Pairwise.filter _ ?_) fun n => ?_
  · decide
  · rw [hp.mem_iff, hk.2, mem_cut, List.mem_filter, decide_eq_true_eq]
    have : n ∈ rangeKs 0 6 ↔ 0 ≤ n ∧ n < 6 := by
      constructor
      · intro h; exact mem_rangeKs h
      · intro h
        have q : ∀ k : _root_.Fin 6, ((k.val : Nat) : Int) ∈ rangeKs 0 6 := by decide
        exact Int.toNat_of_nonneg h.1 ▸ q ⟨n.toNat, by omega⟩
    rw [this, and_comm]
theorem same_sorted {ks a b : List Int} (ha : a.Perm ks) (hb : b.Perm ks) (sa : a.Pairwise (fun x y => x ≤ y)) (sb : b.Pairwise (fun x y => x ≤ y)) : a = b := by
  have : ∀ {a b : List Int}, a.Pairwise (fun x y => x ≤ y) → b.Pairwise (fun x y => x ≤ y) → a.Perm b → a = b := by
    intro a
    induction a with
    | nil => exact fun _ _ p => p.nil_eq
    | cons x a ih =>
      intro b ha hb p
      cases b with
      | nil => exact absurd p.length_eq (by simp)
      | cons y b =>
        obtain ⟨ha1, ha2⟩ := List.pairwise_cons.mp ha
        obtain ⟨hb1, hb2⟩ := List.pairwise_cons.mp hb
        have e : x = y := by
          rcases List.mem_cons.mp (p.mem_iff.mp (.head _)) with e | h1
          · exact e
          · rcases List.mem_cons.mp (p.mem_iff.mpr (.head _)) with e | h2
            · exact e.symm
            · have := ha1 y h2
              have := hb1 x h1
              omega
        subst e
        rw [ih ha2 hb2 (List.perm_cons x |>.mp p)]
  exact this sa sb (ha.trans hb.symm)
theorem eqall_ints {A : Around} {s : Shared} {xs ys : List Value} {a b : List Int} (hx : IntsAre xs a) (hy : IntsAre ys b) (e : a = b) : EqAll A s xs ys := by
  subst e
  induction hx generalizing ys with
  | nil => cases hy; exact .nil
  | cons n t _ ih =>
    cases hy with
    | cons _ u hy => exact .cons (eqa_int _ _ rfl) (ih hy)
theorem nums_digs {ns : List Int} (h : ∀ n ∈ ns, 0 ≤ n ∧ n < 9) : Nums (digs ns) (ns.map some) := by
  refine ⟨by rw [List.length_map, List.length_map], fun i f e => ?_⟩
  rw [List.getElem?_map] at e
  cases q : ns[i]? with
  | none => rw [q] at e; cases e
  | some x =>
    rw [q] at e
    cases e
    have := h x (List.mem_of_getElem? q)
    exact ⟨some x, by rw [List.getElem?_map, q]; rfl, NumF.dig x (by omega) (by omega)⟩
theorem nums_x {ns : List Int} (h : ∀ n ∈ ns, 0 ≤ n ∧ n < 9) : Nums (digs ns ++ [#[120]]) (ns.map some ++ [none]) := by
  have a := nums_digs h
  refine ⟨by rw [List.length_append, List.length_append, a.1]; rfl, fun i f e => ?_⟩
  by_cases hi : i < (digs ns).length
  · rw [List.getElem?_append_left hi] at e
    obtain ⟨o, ho, hf⟩ := a.2 i f e
    exact ⟨o, by rw [List.getElem?_append_left (by rw [← a.1]; exact hi)]; exact ho, hf⟩
  · have hi' : (digs ns).length ≤ i := Nat.not_lt.mp hi
    rw [List.getElem?_append_right hi'] at e
    rw [List.getElem?_append_right (by rw [← a.1]; exact hi'), ← a.1]
    cases q : i - (digs ns).length with
    | zero => rw [q] at e; cases e; exact ⟨none, rfl, .x⟩
    | succ j => rw [q] at e; cases e
end
section
open PySem.Builtin.Bytes (joined)
theorem off47 {x : Int} (h0 : 0 ≤ x) (h1 : x < 9) : (47 : UInt8) ∉ (byteArr [48 + x]).toList := by
  rw [ba_toList, List.mem_singleton]
  intro e
  have := congrArg UInt8.toNat e
  rw [Nat.toUInt8_eq, UInt8.toNat_ofNat'] at this
  have e2 : (47 : UInt8).toNat = 47 := rfl
  rw [e2] at this
  omega
theorem digs_off {ns : List Int} (h : ∀ n ∈ ns, 0 ≤ n ∧ n < 9) : ∀ p ∈ digs ns, (47 : UInt8) ∉ p.toList := fun p hp => by
  obtain ⟨x, hx, rfl⟩ := List.mem_map.mp hp
  exact off47 (h x hx).1 (h x hx).2
theorem digs_sz64 {ns : List Int} : ∀ p ∈ digs ns, p.size ≤ 64 := fun p hp => by
  obtain ⟨x, _, rfl⟩ := List.mem_map.mp hp
  rw [byteArr_size]
  exact Nat.le_of_ble_eq_true rfl
theorem cuts47 {ps : List (Array UInt8)} (h : ps ≠ []) (off : ∀ p ∈ ps, (47 : UInt8) ∉ p.toList) (hs : ∀ p ∈ ps, p.size ≤ 64) (hl : ps.length ≤ 60) : Cuts (joined #[47] ps) 47 ps :=
  ⟨h, off, rfl, fun p hp => Nat.le_trans (hs p hp) (Nat.le_of_ble_eq_true rfl), Nat.le_trans hl (Nat.le_of_ble_eq_true rfl)⟩
theorem jl_ne : ∀ {c : UInt8} {ps : List (List UInt8)}, ps ≠ [] → (∀ p ∈ ps, p ≠ []) → jl c ps ≠ []
  | _, [], h, _ => absurd rfl h
  | _, [a], _, k => by unfold jl; exact k a (.head _)
  | _, a :: b :: r, _, k => by
    unfold jl
    intro e
    exact k a (.head _) (List.append_eq_nil_iff.mp e).1
theorem joined_ne {ps : List (Array UInt8)} (h : ps ≠ []) (k : ∀ p ∈ ps, p.toList ≠ []) : (joined #[47] ps).toList ≠ [] := by
  rw [joined_jl]
  refine jl_ne (fun e => h (List.map_eq_nil_iff.mp e)) fun p hp => ?_
  obtain ⟨q, hq, rfl⟩ := List.mem_map.mp hp
  exact k q hq
theorem digs_ne {ns : List Int} : ∀ p ∈ digs ns, p.toList ≠ [] := fun p hp => by
  obtain ⟨x, _, rfl⟩ := List.mem_map.mp hp
  rw [ba_toList]
  exact List.cons_ne_nil _ _
theorem joined_one (sep b : Array UInt8) : joined sep [b] = b := by
  apply Array.toList_inj.mp
  simp [joined]
noncomputable abbrev xDigs (ns : List Int) : List (Array UInt8) := digs ns ++ [#[120]]
theorem some_any (ns : List Int) : (ns.map some).any Option.isNone = false := by
  rw [List.any_eq_false]
  intro o ho
  obtain ⟨x, _, rfl⟩ := List.mem_map.mp ho
  exact Bool.false_ne_true
theorem x_any (ns : List Int) : (ns.map some ++ [none]).any Option.isNone = true := by
  rw [List.any_append]
  simp
section
variable (w : World) (p : Program) (loose : List Str) (mean : ExcName → Option Value) (mg mb : Str → Option Value)
noncomputable abbrev RtP (w : World) (A : SA) (T : ST) (r : Int) (ns : List Int) (v : Value) (l : Led) : Prop := v = .none ∧ ∃ st' ost' t1', l = [(A.tg, instObj 673 A.td), (A.td, tdS w 6 T.d2 T.d0 t1' st'), (st', ost'), (A.s, instObj 1271 A.sd), (A.sd, scO w A T r 6)] ∧ ost'.IsDictOf (intKind pw w) (putK (cutK 6 ns)) ∧ @LT.lt Nat _ A.td st' ∧ @LT.lt Nat _ A.tg st'
theorem rt_ok (A : SA) (T : ST) (r : Int) (ns : List Int) (tb : Tok) (h : ∀ n ∈ ns, 0 ≤ n ∧ n < 9) (hl : ns.length ≤ 3) (n1 : @Ne Nat A.tg A.td) (m1 : @Ne Nat A.s A.tg) (m2 : @Ne Nat A.s A.td) (m3 : @Ne Nat A.sd A.tg) (m4 : @Ne Nat A.sd A.td) :
    Cq w p loose mean mg mb 10 157 [.ref A.s, .bytes (joined #[47] (digs ns)) tb] [(A.s, instObj 1271 A.sd), (A.sd, scO w A T r 6), (A.tg, instObj 673 A.td), (A.td, tdS w 6 T.d2 T.d0 T.d1 A.st)] (RtP w A T r ns) := by
  by_cases e : ns = []
  · subst e
    exact rt_nil w p loose mean mg mb A T r _ tb rfl ⟨rfl, fun i y h => nomatch h⟩ (by decide) rfl n1 m1 m2 m3 m4
  · have hd : digs ns ≠ [] := fun q => e (List.map_eq_nil_iff.mp q)
    exact rt_put w p loose mean mg mb A T r _ tb (digs ns) ns (cuts47 hd (digs_off h) digs_sz64 (by rw [List.length_map]; omega)) (joined_ne hd digs_ne) (nums_digs h) (by rw [List.length_map]; omega) (some_any ns) n1 m1 m2 m3 m4
theorem rtx_ok (s : Addr) (o : Obj) (ns : List Int) (tb : Tok) (h : ∀ n ∈ ns, 0 ≤ n ∧ n < 9) (hl : ns.length ≤ 3) :
    Cr w p loose mean mg mb 8 157 [.ref s, .bytes (joined #[47] (xDigs ns)) tb] [(s, o)] (fun v l => v = .none ∧ l = []) := by
  have hd : xDigs ns ≠ [] := by intro e; have := congrArg List.length e; rw [List.length_append] at this; cases this
  refine rt_none w p loose mean mg mb s o _ tb (xDigs ns) (ns.map some ++ [none]) (cuts47 hd (fun p hp => ?_) (fun p hp => ?_) ?_) (joined_ne hd fun p hp => ?_) (nums_x h) ?_ (x_any ns)
  · rcases List.mem_append.mp hp with hp | hp
    · exact digs_off h p hp
    · rw [List.mem_singleton.mp hp]; decide
  · rcases List.mem_append.mp hp with hp | hp
    · exact digs_sz64 p hp
    · rw [List.mem_singleton.mp hp]; decide
  · rw [List.length_append, List.length_map]; show ns.length + 1 ≤ 60; omega
  · rcases List.mem_append.mp hp with hp | hp
    · exact digs_ne p hp
    · rw [List.mem_singleton.mp hp]; decide
  · rw [List.length_append, List.length_map]; show ns.length + 1 ≤ 60; omega
end
section
variable {prog : Program} {w : World} {A : Around} {E : Value → Shared → Prop} {s : Shared} {h₀ : Heap} {L l : Addr} {m : Str → Option Value} {news : Led} {its : List (Array UInt8 × Tok)} {k : Nat} {t : Tok} {Q : Value → Shared → Prop} {ps : List (Array UInt8)}
theorem join_any {sep : Array UInt8} (F : Fr h₀ L s.heap m) (N : News h₀ L s.heap news) (hm : (l, W.listOf (bys its).toArray k) ∈ news) (e : its.map (·.1) = ps) (hs : SmallP sep ps) (r : ∀ t' tk, Q (.bytes (joined sep ps) t') { s with toks := tk }) :
    wpAny (model prog w) A (call (.builtin "bytes.join") [.bytes sep t, .ref l]) Q E s := by
  by_cases h1 : ps.length = 1
  · subst e
    rw [List.length_map] at h1
    match its, h1 with
    | [(b, u)], _ =>
      refine bytes_join1 F N hm ?_
      have := r u s.toks
      rw [List.map_cons, List.map_nil, joined_one] at this
      exact this
  · exact bytes_joinP its ps F N hm rfl e h1 hs r
theorem small47 {ns : List Int} (hl : ns.length ≤ 3) : SmallP #[47] (digs ns) := ⟨Nat.le_refl 1, by rw [List.length_map]; omega, digs_sz64⟩
theorem small47x {ns : List Int} (hl : ns.length ≤ 3) : SmallP #[47] (xDigs ns) := ⟨Nat.le_refl 1, by rw [List.length_append, List.length_map]; show ns.length + 1 ≤ 64; omega, fun p hp => by
  rcases List.mem_append.mp hp with hp | hp
  · exact digs_sz64 p hp
  · rw [List.mem_singleton.mp hp]; decide⟩
theorem in_ints {D : Addr} {ys : List Value} {ns : List Int} {x : Int} (N : News h₀ L s.heap news) (hm : (D, LCg.lst ys) ∈ news) (hI : IntsAre ys ns) (q : Q (.bool (decide (x ∈ ns))) s) : wpAny (model prog w) A (compareOp .In (.int x t) (.ref D)) Q E s := by
  have e : ∀ v ∈ ys, ∃ n u, v = .int n u := fun v hv => by
    obtain ⟨i, hi⟩ := List.getElem?_of_mem hv
    obtain ⟨n, u, e, _⟩ := IntsAre.at hI i v hi
    exact ⟨n, u, e⟩
  let f : Value → Bool := fun v => match v with | .int n _ => decide (n = x) | _ => false
  have hf : ys.any f = decide (x ∈ ns) := by
    rw [Bool.eq_iff_iff, List.any_eq_true, decide_eq_true_eq]
    constructor
    · rintro ⟨v, hv, h⟩
      obtain ⟨i, hi⟩ := List.getElem?_of_mem hv
      obtain ⟨n, u, rfl, hn⟩ := IntsAre.at hI i v hi
      rw [← (of_decide_eq_true h : n = x)]
      exact List.mem_of_getElem? hn
    · intro h
      obtain ⟨i, hi⟩ := List.getElem?_of_mem h
      obtain ⟨u, hu⟩ := hI.get i x hi
      exact ⟨_, List.mem_of_getElem? hu, decide_eq_true rfl⟩
  refine SeqAt.in_listAt f (News.isList N hm) (fun y hy => ?_) ?_
  · obtain ⟨n, u, rfl⟩ := e y (Array.mem_toList_iff.mpr hy)
    exact SeqAt.EqAt.int_int n u x t
  · rw [List.any_toArray, hf]
    exact q
end
noncomputable def IntsIn (ns : List Int) : Prop := ∀ n ∈ ns, 0 ≤ n ∧ n < 9
theorem dig_ints {vs : List Value} {ns : List Int} (hI : IntsAre vs ns) (hb : IntsIn ns) (i : Nat) (v : Value) (h : vs[i]? = some v) : ∃ a, ns[i]? = some a ∧ DigR a v := by
  obtain ⟨n, t, rfl, hn⟩ := IntsAre.at hI i v h
  have := hb n (List.mem_of_getElem? hn)
  exact ⟨n, hn, this.1, by omega, t, rfl⟩
noncomputable def DrawEl (w : World) (c : Addr) (n : Nat) (G : Obj → Obj → Led) (y : Value) (news' : Led) : Prop := ∃ x t od' oc', y = .int x t ∧ 0 ≤ x ∧ x < 9 ∧ news' = G od' oc' ∧ Deck w c (n + 1) od' oc'
section
variable {w : World} {A : Around} {h₀ : Heap} {L : Addr} {m : Str → Option Value} {env : Env} {elt : PySem.Expr} {x : Str} {scope : Scope} {cl : List (Str × Addr)} {s : Shared} {P : Nat → Value → Prop} {Fin : List Value → Led → Prop}
theorem cx_drawn {c : Addr} {n cnt : Nat} {od oc : Obj} (G : Obj → Obj → Led) (hD : Deck w c n od oc) (hc : cnt ≤ 3)
    (turn : ∀ n' od oc v I oI C oC D m₂ ys h tk (E' : Value → Shared → Prop), Deck w c n' od oc → n' ≤ n + 3 → P 0 v ∨ True → LCg.NsObj oC m₂ → m₂ x = some v → Fr h₀ L h m → News h₀ L h ((I, oI) :: (C, oC) :: (D, LCg.lst ys) :: G od oc) → LCg.Off3 I C D (G od oc) → ((@Ne Nat I C) ∧ (@Ne Nat I D) ∧ (@Ne Nat C D)) →
      wpAny (model pw w) A (eval elt (compEnvC scope cl C env)) (LCg.CompEnd h₀ L m { s with heap := h, toks := tk } I oI C oC D (LCg.lst ys) (fun _ => True) (DrawEl w c n' G)) E' { s with heap := h, toks := tk })
    (fin : ∀ ys ns od oc n', IntsAre ys ns → IntsIn ns → ns.length ≤ 3 → Deck w c n' od oc → n' ≤ n + 3 → Fin ys (G od oc)) : LCg.CompRest pw w A h₀ L m env elt x scope cl s (fun _ => True) P Fin cnt 0 [] (G od oc) := by
  have key : ∀ (j i : Nat) (ys : List Value) (ns : List Int) (od oc : Obj) (n' : Nat), i + j = cnt → n' = n + i → ns.length = i → IntsAre ys ns → IntsIn ns → Deck w c n' od oc → LCg.CompRest pw w A h₀ L m env elt x scope cl s (fun _ => True) P Fin j i ys (G od oc) := by
    intro j
    induction j with
    | zero =>
      intro i ys ns od oc n' hi hn hl hI hb D
      exact LCg.CompRest.zero (fin ys ns od oc n' hI hb (by omega) D (by omega))
    | succ j ih =>
      intro i ys ns od oc n' hi hn hl hI hb D
      refine LCg.CompRest.succ ?_
      intro v I oI C oC D' m₂ h tk E' _ hC hx F N off ne
      refine wpAny_mono (turn n' od oc v I oI C oC D' m₂ ys h tk E' D (by omega) (.inr trivial) hC hx F N off ne) (fun y s₂ hq => ?_) fun _ _ e => e
      obtain ⟨h', tk', nw, e, F', N', off', hS, x', t', od', oc', rfl, x0, x1, rfl, D2⟩ := hq
      refine ⟨h', tk', _, e, F', N', off', hS, ?_⟩
      refine ih (i + 1) _ (ns ++ [x']) od' oc' (n' + 1) (by omega) (by omega) (by rw [List.length_append, hl]; rfl) (IntsAre.append hI (.cons x' t' .nil)) (fun k hk => ?_) D2
      rcases List.mem_append.mp hk with hk | hk
      · exact hb k hk
      · rw [List.mem_singleton.mp hk]; exact ⟨x0, x1⟩
  exact key cnt 0 [] [] od oc n (by omega) (by omega) rfl .nil (fun _ h => nomatch h) hD
noncomputable def DeckAt (d c : Addr) : Prop := @LT.lt Nat _ d c
theorem cx_drawnU {d c : Addr} {n : Nat} {b : Int} {od oc : Obj} {news : Led} {g1 : Obj → Led} {g2 : Obj → Obj → Led} (_da : DeckAt d c) (hD : Deck w c n od oc) (hc : b < 4) (_U1 : UpdF d od news g1) (_U2 : ∀ o', UpdF c oc (g1 o') (g2 o')) (hG : g2 od oc = news)
    (turn : ∀ n' od oc v I oI C oC D m₂ ys h tk (E' : Value → Shared → Prop), Deck w c n' od oc → n' ≤ n + 3 → P 0 v ∨ True → LCg.NsObj oC m₂ → m₂ x = some v → Fr h₀ L h m → News h₀ L h ((I, oI) :: (C, oC) :: (D, LCg.lst ys) :: g2 od oc) → LCg.Off3 I C D (g2 od oc) → ((@Ne Nat I C) ∧ (@Ne Nat I D) ∧ (@Ne Nat C D)) →
      wpAny (model pw w) A (eval elt (compEnvC scope cl C env)) (LCg.CompEnd h₀ L m { s with heap := h, toks := tk } I oI C oC D (LCg.lst ys) (fun _ => True) (DrawEl w c n' g2)) E' { s with heap := h, toks := tk })
    (fin : ∀ ys ns od oc n', IntsAre ys ns → IntsIn ns → ns.length ≤ 3 → Deck w c n' od oc → n' ≤ n + 3 → Fin ys (g2 od oc)) : LCg.CompRest pw w A h₀ L m env elt x scope cl s (fun _ => True) P Fin (b - 0).toNat 0 [] news := by
  subst hG
  exact cx_drawn g2 hD (by omega) turn fin
theorem cdr_end {I C D : Addr} {s₁ : Shared} {oI oC oD : Obj} {y : Value} {h' : Heap} {tk : Nat} {all news : Led} {R : Value → Led → Prop} (F : Fr h₀ L h' m) (N : News h₀ L h' all) (sub : ∀ p ∈ (I, oI) :: (C, oC) :: (D, oD) :: news, p ∈ all) (off : LCg.Off3 I C D news) (r : R y news) :
    LCg.CompEnd h₀ L m s₁ I oI C oC D oD (fun _ => True) R y { s₁ with heap := h', toks := tk } := LCg.CompEnd.intro F N news sub off trivial r
end
theorem Cq.weaken {w : World} {p : Program} {loose : List Str} {mean : ExcName → Option Value} {mg mb : Str → Option Value} {D : Nat} {f : Addr} {vs : List Value} {small big : Led} {P : Value → Led → Prop} (C : Cq w p loose mean mg mb D f vs small P) (h : ∀ q ∈ small, q ∈ big) : Cq w p loose mean mg mb D f vs big P := by
  intro rest dis dp un gd cn cs a ccd cl outer A₀ base h₀ L m s Q E B F X N T hk hd hu hr
  exact Cq.use rest C (fun p hp q hq => dis p hp q (h q hq)) (fun q hq => (List.mem_append.mp hq).elim (fun k => List.mem_append_left _ (h q k)) (List.mem_append_right _)) B F X N T hk hd hu hr
theorem src_draws {prog : Program} {w : World} {A : Around} {h₀ : Heap} {L : Addr} {m : Str → Option Value} {env : Env} {elt : PySem.Expr} {x : Str} {scope : Scope} {cl : List (Str × Addr)} {Fin : Shared → List Value → List (Addr × Obj) → Prop} {r : Addr} {b : Int} {t u v : Tok} {news : List (Addr × Obj)} {s₁ : Shared}
    (hh : A.handled = none) (F : Fr h₀ L s₁.heap m) (N : News h₀ L s₁.heap news) (hr : IsRange s₁.heap r 0 b 1 t u v) (h0 : 0 ≤ b) (h1 : b < 4)
    (h : ∀ g, LCg.CompRest prog w A h₀ L m env elt x scope cl { s₁ with heap := g } (fun _ => True) (fun i v => ∃ t, v = .int (0 + (i : Int)) t) (Fin { s₁ with heap := g }) (b - 0).toNat 0 [] news) :
    LCg.CompSrc prog w A h₀ L m env elt x scope cl Fin (.ref r) s₁ :=
  LCg.CompSrc.range hh F N hr (small_one (by omega) (by omega) (by omega) (by omega)) (rangeSize_nat _ _) (Nat.le_trans (by omega : (b - 0).toNat ≤ 3) (by decide)) h
theorem put_lt {ns : List Int} (h : ns.length ≤ 3) : (putK (cutK 6 ns)).length < 64 := by
  have a := putK_len (cutK 6 ns)
  have b := cutK_len (cc := 6) (ns := ns)
  omega
theorem told2 (w : World) (p : Program) (loose : List Str) (mean : ExcName → Option Value) (mg mb : Str → Option Value) (g td st : Addr) (t0 t1 tc : Tok) (cc : Int) (ost : Obj) (kvs : List (Int × Value)) (hd : ost.IsDictOf (intKind pw w) kvs) (hl : kvs.length < 64) (lo : (st == sysModules) = false) :
    Cr w p loose mean mg mb 4 634 [.ref g] [(g, instObj 673 td), (td, tdS w cc tc t0 t1 st), (st, ost)] (fun v l => ∃ q vs ns k, v = .ref q ∧ l = [(q, W.listOf (List.toArray vs) k)] ∧ IntsAre vs ns ∧ ns.Perm (kvs.map (·.1)) ∧ ns.Pairwise (fun x y => x ≤ y) ∧ vs.length ≤ sizeLine) := by
  refine Cr.mono (told_ok w p loose mean mg mb g td st t0 t1 tc cc ost kvs hd hl lo) fun v l P => ?_
  obtain ⟨q, vs, ns, k, e1, e2, hI, hp, hs⟩ := P
  refine ⟨q, vs, ns, k, e1, e2, hI, hp, hs, ?_⟩
  rw [hI.length, hp.length_eq, List.length_map]
  exact Nat.le_trans (Nat.le_of_lt hl) (by decide)
theorem ints_len {vs : List Value} {ns : List Int} (hI : IntsAre vs ns) (hl : ns.length ≤ 3) : vs.toArray.size ≤ sizeLine := by
  rw [List.size_toArray, hI.length]
  exact Nat.le_trans hl (by decide)
section
variable {w : World} {p : Program} {loose : List Str} {mean : ExcName → Option Value} {mg mb : Str → Option Value} {news : Led} {dp un : Nat} {gd : Option (List Code)} {cn : Str} {cs : Scope} {a : Addr} {ccd : Value} {cl : List (Str × Addr)} {outer : List Env} {A₀ : Around} {base h₀ : Heap} {L : Addr} {m : Str → Option Value} {s : Shared} {Q E : Value → Shared → Prop}
theorem rt_use {A : SA} {T : ST} {r : Int} {ns : List Int} {tb : Tok} {dc dn : Addr} {oc : Obj} {ys : List Value} (hc : oc.data = .cell (some (.ref dn))) (hm : (dc, oc) ∈ news) (hy : (dn, LCg.lst ys) ∈ news) (h : IntsIn ns) (hl : ns.length ≤ 3) (n1 : @Ne Nat A.tg A.td) (m1 : @Ne Nat A.s A.tg) (m2 : @Ne Nat A.s A.td) (m3 : @Ne Nat A.sd A.tg) (m4 : @Ne Nat A.sd A.td)
    (hs : ∀ q ∈ [(A.s, instObj 1271 A.sd), (A.sd, scO w A T r 6), (A.tg, instObj 673 A.td), (A.td, tdS w 6 T.d2 T.d0 T.d1 A.st)], q ∈ news)
    (ap : Apart [(A.s, instObj 1271 A.sd), (A.sd, scO w A T r 6), (A.tg, instObj 673 A.td), (A.td, tdS w 6 T.d2 T.d0 T.d1 A.st)] [(dc, oc), (dn, LCg.lst ys)])
    (B : Below A₀ base outer h₀) (F : Fr h₀ L s.heap m) (X : (KK w.params).In h₀) (N : News h₀ L s.heap news) (T' : Top p loose mean mg mb h₀) (hk : cs.kind = .function) (hd : dp + 10 < recursionLimit) (hu : un + 100 * 10 < cLine)
    (k : ∀ st' ost' t1' h' tk', ost'.IsDictOf (intKind pw w) (putK (cutK 6 ns)) → @LT.lt Nat _ A.td st' → @LT.lt Nat _ A.tg st' → Fr h₀ L h' m → News h₀ L h' [(A.tg, instObj 673 A.td), (A.td, tdS w 6 T.d2 T.d0 t1' st'), (st', ost'), (A.s, instObj 1271 A.sd), (A.sd, scO w A T r 6), (dc, oc), (dn, LCg.lst ys)] → Q .none { s with heap := h', toks := tk' }) :
    wpAny (model pw w) (ktrTop dp un gd cn cs L a ccd cl outer) (call (.ref 157) [.ref A.s, .bytes (joined #[47] (digs ns)) tb]) Q E s := by
  refine Cq.use [(dc, oc), (dn, LCg.lst ys)] (rt_ok w p loose mean mg mb A T r ns tb h hl n1 m1 m2 m3 m4) ap (fun q hq => ?_) B F X N T' hk hd hu ?_
  · rcases List.mem_append.mp hq with hq | hq
    · exact hs q hq
    · simp only [List.mem_cons, List.not_mem_nil, or_false] at hq
      rcases hq with rfl | rfl
      · exact hm
      · exact hy
  · rintro v l ⟨rfl, st', ost', t1', rfl, d1, l1, l2⟩ _ h' tk' F' N'
    exact k st' ost' t1' h' tk' d1 l1 l2 F' N'
end
theorem x_map {l : List (Array UInt8 × Tok)} {ns : List Int} {u : Tok} (e : l.map (·.1) = digs ns) : List.map (fun p : Array UInt8 × Tok => p.1) (l ++ [(#[120], u)]) = xDigs ns := by rw [List.map_append, e]; rfl
theorem bys_x {l : List (Array UInt8 × Tok)} {u : Tok} : bys l ++ [Value.bytes #[120] u] = bys (l ++ [(#[120], u)]) := by unfold bys; rw [List.map_append]; rfl
theorem x_len {l : List (Array UInt8 × Tok)} {ns : List Int} (e : l.map (·.1) = digs ns) (hl : ns.length ≤ 3) : (bys l).length ≤ 3 := by
  unfold bys
  rw [List.length_map, ← List.length_map (f := (·.1)), e, List.length_map]
  exact hl
theorem lta (l : List Value) : l.toArray.toList = l := rfl
theorem bys_x2 {l : List (Array UInt8 × Tok)} {u : Tok} : (bys l).toArray.toList ++ (#[Value.bytes (List.toArray [120]) u] : Array Value).toList = bys (l ++ [(#[120], u)]) := bys_x
theorem x_len2 {l : List (Array UInt8 × Tok)} {ns : List Int} {u : Tok} (e : l.map (·.1) = digs ns) (hl : ns.length ≤ 3) : (bys l).toArray.toList.length + (#[Value.bytes (List.toArray [120]) u] : Array Value).toList.length ≤ sizeLine := by
  have := x_len e hl
  show (bys l).length + 1 ≤ sizeLine
  exact Nat.le_trans (by omega : _ ≤ 4) (by decide)
theorem src_pick {prog : Program} {w : World} {A : Around} {h₀ : Heap} {L : Addr} {m : Str → Option Value} {env : Env} {ct elt : PySem.Expr} {x : Str} {scope : Scope} {cl : List (Str × Addr)} {Fin : Shared → List Value → List (Addr × Obj) → Prop} {r : Addr} {t u v : Tok} {news : List (Addr × Obj)} {s₁ : Shared}
    (hh : A.handled = none) (F : Fr h₀ L s₁.heap m) (N : News h₀ L s₁.heap news) (hr : IsRange s₁.heap r 0 6 1 t u v)
    (h : ∀ g, LCt.CompRestT prog w A h₀ L m env ct elt x scope cl { s₁ with heap := g } (fun _ => True) (fun i v => ∃ t, v = .int (0 + (i : Int)) t) (Fin { s₁ with heap := g }) 6 0 [] news) :
    LCt.CompSrcT prog w A h₀ L m env ct elt x scope cl Fin (.ref r) s₁ :=
  LCt.CompSrcT.range hh F N hr (by decide) (by rfl) (by decide) h
theorem off1_of {q : Addr} {o : Obj} : ∀ {news : Led}, Apart [(q, o)] news → LCg.Off1 q news
  | [], _ => trivial
  | p :: r, h => ⟨fun e => h p (.head _) (q, o) (.head _) e, off1_of fun p hp => h p (.tail _ hp)⟩
theorem off1_ne {D a : Addr} {o : Obj} : ∀ {l : Led}, LCg.Off1 D l → (a, o) ∈ l → @Ne Nat a D
  | p :: r, h, hm => (List.mem_cons.mp hm).elim (fun e => by have := h.1; rw [← e] at this; exact this) fun hm => off1_ne h.2 hm
theorem off3_ne1 {I C D a : Addr} {o : Obj} {l : Led} (h : LCg.Off3 I C D l) (hm : (a, o) ∈ l) : @Ne Nat a I := (h.mem _ hm).1
theorem off3_ne2 {I C D a : Addr} {o : Obj} {l : Led} (h : LCg.Off3 I C D l) (hm : (a, o) ∈ l) : @Ne Nat a C := (h.mem _ hm).2.1
theorem off3_ne3 {I C D a : Addr} {o : Obj} {l : Led} (h : LCg.Off3 I C D l) (hm : (a, o) ∈ l) : @Ne Nat a D := (h.mem _ hm).2.2
theorem lo_ne {x : Addr} (h : @LT.lt Nat _ 1 x) : (x == sysModules) = false := beq_eq_false_iff_ne.mpr (Nat.ne_of_gt h)
theorem lo_ch {a b c x : Nat} (h1 : a < b) (h2 : b < c) (h3 : c < x) : 1 < x := by omega
theorem pick_gr2 {ns : List Int} (_ : IntsIn ns) : KPfGrows (pickK ns) := pick_grows ns
end
section
theorem kw_WTabs_0 : True := by
  k_with "z60" => skip
  k_with "my kfold" => ((fail_if_success k_extra "z63"); skip)
  k_with "my kf" => ((fail_if_success k_extra "z63"); (k_extra "my kclose"))
  trivial
open PySem.Builtin.Bytes (joined)
theorem kw_WTabs_1 : True := by
  k_with "my offne" => ((fail_if_success k_extra "z63"); (first | exact off1_ne (by with_reducible assumption) (by (repeat (first | with_reducible exact List.mem_cons_self .. | refine List.mem_cons_of_mem _ ?_))) | exact off3_ne1 (by with_reducible assumption) (by (repeat (first | with_reducible exact List.mem_cons_self .. | refine List.mem_cons_of_mem _ ?_))) | exact off3_ne2 (by with_reducible assumption) (by (repeat (first | with_reducible exact List.mem_cons_self .. | refine List.mem_cons_of_mem _ ?_))) | exact off3_ne3 (by with_reducible assumption) (by (repeat (first | with_reducible exact List.mem_cons_self .. | refine List.mem_cons_of_mem _ ?_)))))
  k_with "my kne" => ((fail_if_success k_extra "z63"); ((refine neN ?_; (try dsimp only); first | exact Nat.ne_of_lt (by with_reducible assumption) | exact Nat.ne_of_gt (by with_reducible assumption) | with_reducible assumption | exact Ne.symm (by with_reducible assumption) | k_extra "my offne" | (refine Ne.symm ?_; k_extra "my offne") | k_extra "my ne2" | omega)))
  k_with "my FinE" => ((fail_if_success k_extra "z63"); ((k_here; (intro D' h' tk' F' N' hof'))))
  k_with "my FinA" => ((fail_if_success k_extra "z63"); ((k_here; (intro D' h' tk' F' N' hof'))))
  k_with "my call ref" => ((fail_if_success k_extra "z63"); ((k_here; (with_reducible show wpAny _ _ (call (Value.ref 1287) _) _ _ _); k_dflt (refine' Cl.use (draw_ok _ _ _ _ _ _ _ _ _ _ _ _ _ _ _ _ ?hD_225 ?hdc_225 ?U1_225 ?U2_225 ?hn_225 ?hb_225 ?hb2_225) ?B_225 ?F_225 ?X_225 ?N_225 ?T_225 ?hk_225 ?hd_225 ?hu_225 ?_; (case N_225 => k_asm); (case hD_225 => assumption); (case hdc_225 => assumption); (case U1_225 => k_updF); (case U2_225 => (intro o'; (try dsimp only); k_updF)); (case hn_225 => omega); (case hb_225 => first | decide | omega); (case hb2_225 => first | decide | omega); (case B_225 => assumption); (case F_225 => k_asm); (case X_225 => assumption); (case T_225 => assumption); (case hk_225 => rfl); (case hd_225 => ktr_room); (case hu_225 => ktr_units)); intro v t od' oc' v1 v2 D' h' tk' F' N'; (try dsimp only at N'))))
  k_with "my call ref" => ((fail_if_success k_extra "z63"); ((k_here; (with_reducible show wpAny _ _ (call (Value.ref 1316) _) _ _ _); k_dflt (refine' Cr.use (ldec_ok _ _ _ _ _ _ _ _ ?p1_226 ?p2_226) ?hs_226 ?B_226 ?F_226 ?X_226 ?N_226 ?T_226 ?hk_226 ?hd_226 ?hu_226 ?_; (case N_226 => k_asm); (case hs_226 => kcf_all); (case p1_226 => first | assumption | omega); (case p2_226 => first | assumption | omega); (case B_226 => assumption); (case F_226 => k_asm); (case X_226 => assumption); (case T_226 => assumption); (case hk_226 => rfl); (case hd_226 => ktr_room); (case hu_226 => ktr_units)); intro v1 l1 P1 ap1 h' tk' F' N'; obtain ⟨⟨t1, e1⟩, e2⟩ := P1; subst e1; subst e2; (try simp only [List.nil_append] at N'))))
  k_with "my getMethod bytes" => ((fail_if_success k_extra "z63"); ((k_here; first | (with_reducible refine meth_join ?_) | (with_reducible refine meth_split ?_))))
  k_with "my eval ListComp" => ((fail_if_success k_extra "z63"); ((k_here; (with_reducible show wpAny _ _ (eval (PySem.Expr.ListComp _ [⟨_, _, [], _⟩] _ _) _) _ _ _); k_dflt (refine LCg.ListComp_U (F₀ := by k_asm) (by rfl) (by decide) (by rfl) (by decide) (by rfl) ?_))))
  k_with "my eval ListComp" => ((fail_if_success k_extra "z63"); ((k_here; (with_reducible show wpAny _ _ (eval (PySem.Expr.ListComp _ [⟨_, _, [_], _⟩] _ _) _) _ _ _); k_dflt (refine LCt.ListComp_T (F₀ := by k_asm) (by rfl) (by decide) (by rfl) (by decide) (by rfl) ?_))))
  k_with "my exec Assign cons ListComp" => ((fail_if_success k_extra "z63"); ((k_here; (with_reducible show wpAny _ _ (exec (PySem.Stmt.Assign [PySem.Expr.Name (PySem.Str.ofString "words") _] _ _) _) _ _ _); k_dflt (refine LCg.Assign_ListComp_U (F₀ := by k_asm) (by rfl) (by with_unfolding_all rfl) (by with_unfolding_all rfl) (by decide) (by rfl) (by decide) (by rfl) (by rfl) (by rfl) ?_))))
  k_with "my OffS" => ((fail_if_success k_extra "z63"); (first | assumption | exact trivial))
  k_with "my CompSrc" => ((fail_if_success k_extra "z63"); ((k_here; (rename Deck _ _ _ _ _ => hD'); k_dflt (refine src_draws (by rfl) (by k_asm) (by k_asm) (by assumption) (by assumption) (by assumption) ?_; intro g'; (refine' cx_drawnU (by assumption) hD' ?hc_232 ?U1_232 ?U2_232 ?hG_232 (fun n' od' oc' v' I' oI' C' oC' D' m' ys' h' tk' E' hD' hn' hv' hC' hx' F' N' off' ne' => ?_) ?_); (case hc_232 => assumption); (case U1_232 => k_updF); (case U2_232 => (intro o'; (try dsimp only); k_updF)); (case hG_232 => rfl); (all_goals (try (dsimp only at N'))); (all_goals (try (dsimp only at off')));kcf_last))))
  k_with "my CompEnd" => ((fail_if_success k_extra "z63"); ((k_here; (with_reducible show LCg.CompEnd _ _ _ _ _ _ _ _ _ _ _ (DrawEl _ _ _ _) _ _); k_dflt (exact cdr_end (by assumption) (by assumption) (by kcf_all) (by k_extra "my OffS") ⟨_, _, _, _, rfl, by assumption, by assumption, rfl, by assumption⟩))))
  k_with "my CompSrc" => ((fail_if_success k_extra "z63"); ((k_here; (with_reducible show LCg.CompSrc _ _ _ _ _ _ _ _ (Str.ofString "number") _ _ _ _ _); k_dflt (refine LCg.CompSrc.ledger (by rfl) (by k_asm) (by k_asm) (by k_mem) (ints_len (by assumption) (by assumption)) ?_; intro g'; (refine' cx_bys (fun x => byteArr [48 + x]) _ DigR ?hl_234 (dig_ints (by assumption) (by assumption)) (fun a' v' I' oI' C' oC' D' m' ys' h' tk' E' hv' hC' hx' F' N' off' ne' => ?_) ?_); (case hl_234 => exact IntsAre.length (by assumption)); (obtain ⟨b0, b1, t0, e0⟩ := hv'; subst e0); kcf_last))))
  k_with "my CompEnd" => ((fail_if_success k_extra "z63"); ((k_here; (with_reducible show LCg.CompEnd _ _ _ _ _ _ _ _ _ _ _ (fun _ _ => CXEl _ _ _ _) _ _); k_dflt (refine cx_end (by assumption) (by assumption) (by kcf_all) (by k_extra "my OffS") (by first | lcg_src | assumption | exact True.intro) ⟨_, rfl⟩))))
  k_with "my call ref" => ((fail_if_success k_extra "z63"); ((k_here; (with_reducible show wpAny _ _ (call (Value.ref 634) _) _ _ _); (rename Fr _ _ _ _ => lF'); (rename News _ _ _ _ => lN'); k_dflt (refine' Cr.use (told2 _ _ _ _ _ _ _ _ _ _ _ _ _ _ _ ?hd_236 ?hl_236 ?lo_236) ?hs_236 (by assumption) lF' (by assumption) lN' (by assumption) rfl ?hx_236 ?hu_236 ?_; (case hd_236 => assumption); (case hs_236 => kcf_all); (case lo_236 => first | assumption | exact lo_ne (by omega)); (case hl_236 => first | exact put_lt (by assumption) | decide); (case hx_236 => ktr_room); (case hu_236 => ktr_units)); (clear lF' lN'); intro v1 l1 P1 ap1 h' tk' F' N'; (obtain ⟨q1, vs1, ns1, k1, e1, e2, hI1, hp1, hs1, hz1⟩ := P1); (subst e1); (subst e2); (simp only [List.cons_append, List.nil_append] at N'); (have o1' := off1_of ap1); (clear ap1))))
  k_with "my call type:list" => ((fail_if_success k_extra "z63"); ((k_here; (with_reducible show wpAny _ _ (call (Value.type _) [Value.ref _]) _ _ _); k_dflt (refine' kup_listOf (zs := _) ?F_237 ?N_237 ?b_237 ?e_237 ?_ ?z_237; (case F_237 => k_asm); (case N_237 => k_asm); (case b_237 => k_mem); (case e_237 => exact lta _); (case z_237 => (show List.length _ ≤ sizeLine; assumption))); intro D' c' h' F' N' l1; (try k_lt l1))))
  k_with "my binaryOp Add ref ref" => ((fail_if_success k_extra "z63"); ((k_here; k_dflt (refine' kmk_add_lit ?F_238 ?N_238 ?a_238 ?b_238 (bys_x2) ?_ (x_len2 (by assumption) (by assumption)); (case F_238 => k_asm); (case N_238 => k_asm); (case a_238 => exact News.isList (by k_asm) (by k_mem)); (case b_238 => exact News.isList (by k_asm) (by k_mem))); intro D' h' F' N' l1; (try k_lt l1))))
  k_with "my call builtin:bytes.join" => ((fail_if_success k_extra "z63"); ((k_here; k_dflt (refine join_any (s := ⟨_, _, _, _, _⟩) (by k_asm) (by k_asm) (by k_mem) (by first | assumption | exact x_map (by assumption)) (by first | exact small47 (by assumption) | exact small47x (by assumption)) ?_); intro t' tk')))
  k_with "my call ref" => ((fail_if_success k_extra "z63"); ((k_here; (with_reducible show wpAny _ _ (call (Value.ref 157) [_, Value.bytes (joined _ (xDigs _)) _]) _ _ _); (rename Fr _ _ _ _ => lF'); (rename News _ _ _ _ => lN'); k_dflt (refine' Cr.use (rtx_ok _ _ _ _ _ _ _ _ _ _ (by assumption) (by assumption)) ?hs_240 (by assumption) lF' (by assumption) lN' (by assumption) rfl ?hx_240 ?hu_240 ?_; (case hs_240 => kcf_all); (case hx_240 => ktr_room); (case hu_240 => ktr_units)); (clear lF' lN'); intro v1 l1 P1 ap1 h' tk' F' N'; (clear ap1); (obtain ⟨e1, e2⟩ := P1); (subst e1); (subst e2); (simp only [List.nil_append] at N'))))
  k_with "my call ref" => ((fail_if_success k_extra "z63"); ((k_here; (with_reducible show wpAny _ _ (call (Value.ref 157) [_, Value.bytes (joined _ (digs _)) _]) _ _ _); (rename Fr _ _ _ _ => lF'); (rename News _ _ _ _ => lN'); k_dflt (refine rt_use (by with_reducible assumption) (by (repeat (first | with_reducible exact List.mem_cons_self .. | refine List.mem_cons_of_mem _ ?_))) (by (repeat (first | with_reducible exact List.mem_cons_self .. | refine List.mem_cons_of_mem _ ?_))) (by assumption) (by assumption) (by assumption) (by assumption) (by assumption) (by assumption) (by assumption) (by kcf_all) (by (repeat' (first | exact List.forall_mem_nil _ | (refine List.forall_mem_cons.mpr ⟨?_, ?_⟩))) <;> k_ne) (by assumption) lF' (by assumption) lN' (by assumption) rfl (by ktr_room) (by ktr_units) ?_); (clear lF' lN'); intro st1 o1 u1 h' tk' d1 lt1 lt2 F' N')))
  k_with "my CompSrcT" => ((fail_if_success k_extra "z63"); ((k_here; k_dflt (refine src_pick (by rfl) (by k_asm) (by k_asm) (by assumption) ?_; intro g'; (rename IntsIn _ => hin'); (refine' kci_range (pickK _) (fun k' t' I' oI' C' oC' D' m' ys' l' h' tk' E' hlo' hhi' hI' hC' hx' F' N' off' ne' => ?_) ?_ (pick_gr2 hin')); (all_goals (try ((show KPfMark → _); intro hMark'))); kcf_last))))
  k_with "my compareOp In int ref" => ((fail_if_success k_extra "z63"); ((k_here; k_dflt (refine in_ints (s := ⟨_, _, _, _, _⟩) (by k_asm) (by k_mem) (by assumption) ?_))))
  k_with "my CompEnd" => ((fail_if_success k_extra "z63"); ((k_here; (with_reducible show LCg.CompEnd _ _ _ _ _ _ _ _ _ _ _ (fun _ _ => KCiEl _ _ _ _ _) _ _); k_dflt (exact cti_el (by assumption) (by assumption) (by kcf_all) (by k_extra "my OffS") (by first | lcg_src | assumption | exact True.intro) (if_pos (by first | assumption | exact of_decide_eq_true (by assumption)))))))
  k_with "my CompEnd" => ((fail_if_success k_extra "z63"); ((k_here; (with_reducible show LCg.CompEnd _ _ _ _ _ _ _ _ _ _ _ (fun _ _ => KCiNo _ _ _ _) _ _); k_dflt (exact cti_no (by assumption) (by assumption) (by kcf_all) (by k_extra "my OffS") (by first | lcg_src | assumption | exact True.intro) (if_neg (by first | assumption | exact of_decide_eq_false (by assumption) | exact of_decide_eq_false (Bool.eq_false_iff.mpr (by assumption))))))))
  k_with "my compareOp Eq ref ref" => ((fail_if_success k_extra "z63"); ((k_here; k_dflt (refine eq_lists (s := ⟨_, _, _, _, _⟩) (by k_asm) (by k_mem) (by k_mem) (by ktr_units) (by first | exact eqall_ints (by assumption) (by assumption) (same_sorted (by assumption) (by assumption) (by assumption) (by assumption)) | exact eqall_ints (by assumption) (by assumption) (tabs_law (by assumption) (by assumption))) ?_))))
  trivial
set_option maxHeartbeats 8000000 in
theorem tabs_ok (w : World) (p : Program) (loose : List Str) (mean : ExcName → Option Value) (mg mb : Str → Option Value) (A : SA) (T : ST) (d c : Addr) (od oc : Obj) (n : Nat) (hn : n ≤ 500) (hD : Deck w c n od oc) (hdc : @LT.lt Nat _ d c) (hd : T.ost.IsDictOf (intKind pw w) []) (lo : (A.st == sysModules) = false) (n1 : @Ne Nat A.tg A.td) (m1 : @Ne Nat A.s A.tg) (m2 : @Ne Nat A.s A.td) (m3 : @Ne Nat A.sd A.tg) (m4 : @Ne Nat A.sd A.td) (e1 : @Ne Nat A.s d) (e2 : @Ne Nat A.sd d) (e3 : @Ne Nat A.tg d) (e4 : @Ne Nat A.td d) (e5 : @Ne Nat A.st d) (f1 : @Ne Nat A.s c) (f2 : @Ne Nat A.sd c) (f3 : @Ne Nat A.tg c) (f4 : @Ne Nat A.td c) (f5 : @Ne Nat A.st c) (lt4 : @LT.lt Nat _ 1 A.tg) :
    Cq w p loose mean mg mb 14 1340 [.ref d, .ref A.s] [(d, od), (c, oc), (A.s, instObj 1271 A.sd), (A.sd, scO w A T 2 6), (A.tg, instObj 673 A.td), (A.td, tdS w 6 T.d2 T.d0 T.d1 A.st), (A.st, T.ost)] (fun v l => v = .bool true ∧ l = []) := _root_.id <| by
  have hda : DeckAt d c := hdc
  k_dflt (refine' Cq.of_bodyC (binds := [(("deck" : Str), .ref d), (("screen" : Str), .ref A.s)]) ?k6 ?k7 ?k9 ?kB ?kD ?c2 ?c3 ?c4 ?_; (case k6 => k_is); (case k7 => k_is); (case k9 => exact rfl); (case kB => exact rfl); (case kD => decide +kernel); (case c2 => exact rfl); (case c3 => exact rfl); (case c4 => exact rfl))
  intro dp un gd outer A₀ base g L h tk gs dr os cells Q B X Tp F N Y lL hdR hu hQ
  revert hn hD hdc hd lo n1 m1 m2 m3 m4 e1 e2 e3 e4 e5 f1 f2 f3 f4 f5 lt4 hda B X Tp F N Y lL hdR hu hQ
  revert w p loose mean mg mb A T d c od oc n dp un gd outer A₀ base g L h tk gs dr os cells Q
  k_extra "my d14"; intros w p loose mean mg mb A T d c od oc n dp; k_extra "my of"
  k_extra "my d14"; intros un gd outer A₀ base g L h tk gs dr os cells Q; k_extra "my of"
  intros hn hD hdc hd lo n1 m1 m2 m3 m4 e1 e2 e3 e4 e5 f1 f2 f3 f4 f5 lt4 hda B X Tp F N Y lL hdR hu hQ
  haveI mk : Mark := Mark.mk
  (try k_lt lL)
  k_cells Y
  (try simp only [List.cons_append, List.nil_append] at N)
  (try dsimp only)
  k_extra "my kclose"
  k_extra "my ks2"
  all_goals (refine' hQ (.ret _) _ [] _ _ _ ?ff ?nn ?sub ⟨rfl, rfl⟩; (case ff => assumption); (case nn => assumption); (case sub => exact fun _ h => nomatch h))
theorem tabs_all (w : World) (p : Program) (loose : List Str) (mean : ExcName → Option Value) (mg mb : Str → Option Value) : TabsOK w p loose mean mg mb := by
  intro A T σ d c od oc n hn D hdc O nd nc
  obtain ⟨oss, ost, _, o1, o2, o3, o4, o5, o6, o7, o8, o9, o10, o11, o12, o13⟩ := O
  have c5 := Nat.lt_trans (Nat.lt_trans o5 o6) o7
  have c6 := Nat.lt_trans c5 o8
  have c9 := Nat.lt_of_le_of_lt (Nat.succ_le_of_lt (Nat.zero_lt_of_lt o3)) (Nat.lt_trans o4 c6)
  refine Cq.weaken (tabs_ok w p loose mean mg mb A T d c od oc n hn D hdc ost (lo_ne (Nat.lt_trans c9 o9)) (Nat.ne_of_gt o8) (Nat.ne_of_lt c6) (Nat.ne_of_lt c5) (Nat.ne_of_lt (Nat.lt_trans o4 c6)) (Nat.ne_of_lt (Nat.lt_trans o4 c5))
    (nd _ scr_m_s) (nd _ scr_m_sd) (nd _ scr_m_tg) (nd _ scr_m_td) (nd _ scr_m_st) (nc _ scr_m_s) (nc _ scr_m_sd) (nc _ scr_m_tg) (nc _ scr_m_td) (nc _ scr_m_st) c9) fun q hq => ?_
  simp only [List.mem_cons, List.not_mem_nil, or_false] at hq
  rcases hq with rfl | rfl | rfl | rfl | rfl | rfl | rfl
  · exact .head _
  · exact .tail _ (.head _)
  · exact .tail _ (.tail _ scr_m_s)
  · exact .tail _ (.tail _ scr_m_sd)
  · exact .tail _ (.tail _ scr_m_tg)
  · exact .tail _ (.tail _ scr_m_td)
  · exact .tail _ (.tail _ scr_m_st)
end
section
theorem kw_WMain_0 : True := by
  k_with "z63" => skip
  k_with "my kfold" => ((fail_if_success k_extra "z64"); skip)
  k_with "my mf" => ((fail_if_success k_extra "z64"); ((first | (refine mem_flat (List.mem_cons_self ..) _ ?_; k_mem) | (refine mem_flat (List.mem_cons_of_mem _ (List.mem_cons_self ..)) _ ?_; k_mem) | (refine mem_flat (List.mem_cons_of_mem _ (List.mem_cons_of_mem _ (List.mem_cons_self ..))) _ ?_; k_mem) | (refine mem_flat (List.mem_cons_of_mem _ (List.mem_cons_of_mem _ (List.mem_cons_of_mem _ (List.mem_cons_self ..)))) _ ?_; k_mem) | (refine mem_flat (List.mem_cons_of_mem _ (List.mem_cons_of_mem _ (List.mem_cons_of_mem _ (List.mem_cons_of_mem _ (List.mem_cons_self ..))))) _ ?_; k_mem) | (refine mem_flat (List.mem_cons_of_mem _ (List.mem_cons_of_mem _ (List.mem_cons_of_mem _ (List.mem_cons_of_mem _ (List.mem_cons_of_mem _ (List.mem_cons_self ..)))))) _ ?_; k_mem) | (refine mem_flat (List.mem_cons_of_mem _ (List.mem_cons_of_mem _ (List.mem_cons_of_mem _ (List.mem_cons_of_mem _ (List.mem_cons_of_mem _ (List.mem_cons_of_mem _ (List.mem_cons_self ..))))))) _ ?_; k_mem) | (refine mem_flat (List.mem_cons_of_mem _ (List.mem_cons_of_mem _ (List.mem_cons_of_mem _ (List.mem_cons_of_mem _ (List.mem_cons_of_mem _ (List.mem_cons_of_mem _ (List.mem_cons_of_mem _ (List.mem_cons_self ..)))))))) _ ?_; k_mem) | (refine mem_flat (List.mem_cons_of_mem _ (List.mem_cons_of_mem _ (List.mem_cons_of_mem _ (List.mem_cons_of_mem _ (List.mem_cons_of_mem _ (List.mem_cons_of_mem _ (List.mem_cons_of_mem _ (List.mem_cons_of_mem _ (List.mem_cons_self ..))))))))) _ ?_; k_mem) | (refine mem_flat (List.mem_cons_of_mem _ (List.mem_cons_of_mem _ (List.mem_cons_of_mem _ (List.mem_cons_of_mem _ (List.mem_cons_of_mem _ (List.mem_cons_of_mem _ (List.mem_cons_of_mem _ (List.mem_cons_of_mem _ (List.mem_cons_of_mem _ (List.mem_cons_self ..)))))))))) _ ?_; k_mem) | (refine mem_flat (List.mem_cons_of_mem _ (List.mem_cons_of_mem _ (List.mem_cons_of_mem _ (List.mem_cons_of_mem _ (List.mem_cons_of_mem _ (List.mem_cons_of_mem _ (List.mem_cons_of_mem _ (List.mem_cons_of_mem _ (List.mem_cons_of_mem _ (List.mem_cons_of_mem _ (List.mem_cons_self ..))))))))))) _ ?_; k_mem) | (refine mem_flat (List.mem_cons_of_mem _ (List.mem_cons_of_mem _ (List.mem_cons_of_mem _ (List.mem_cons_of_mem _ (List.mem_cons_of_mem _ (List.mem_cons_of_mem _ (List.mem_cons_of_mem _ (List.mem_cons_of_mem _ (List.mem_cons_of_mem _ (List.mem_cons_of_mem _ (List.mem_cons_of_mem _ (List.mem_cons_self ..)))))))))))) _ ?_; k_mem) | (refine mem_flat (List.mem_cons_of_mem _ (List.mem_cons_of_mem _ (List.mem_cons_of_mem _ (List.mem_cons_of_mem _ (List.mem_cons_of_mem _ (List.mem_cons_of_mem _ (List.mem_cons_of_mem _ (List.mem_cons_of_mem _ (List.mem_cons_of_mem _ (List.mem_cons_of_mem _ (List.mem_cons_of_mem _ (List.mem_cons_of_mem _ (List.mem_cons_self ..))))))))))))) _ ?_; k_mem) | (refine mem_flat (List.mem_cons_of_mem _ (List.mem_cons_of_mem _ (List.mem_cons_of_mem _ (List.mem_cons_of_mem _ (List.mem_cons_of_mem _ (List.mem_cons_of_mem _ (List.mem_cons_of_mem _ (List.mem_cons_of_mem _ (List.mem_cons_of_mem _ (List.mem_cons_of_mem _ (List.mem_cons_of_mem _ (List.mem_cons_of_mem _ (List.mem_cons_of_mem _ (List.mem_cons_self ..)))))))))))))) _ ?_; k_mem))))
  trivial
open PySem.Builtin.Bytes (joined)
local macro_rules | `(tactic| k_lt $h:ident) => `(tactic| skip)
theorem kw_WMain_1 : True := by
  k_with "my kmem" => ((fail_if_success k_extra "z64"); (((with_reducible show _ ∈ scrD _ _ _ _ _ _); k_dflt (first | exact scr_m_s | exact scr_m_sd | exact scr_m_cu | exact scr_m_cud | exact scr_m_tg | exact scr_m_td | exact scr_m_st | exact scr_m_ch | exact scr_m_chd | exact scr_m_nm | exact scr_m_mo | exact scr_m_md | exact scr_m_ss | exact scr_m_pn))))
  trivial
theorem lawE_or (σ : SV) (b : Bool) : lawE σ b = lawE σ false ∨ lawE σ b = lawE σ true := by cases b; exact .inl rfl; exact .inr rfl
theorem e_false {its : List (Array UInt8 × Tok)} {σ : SV} (e : its.map (·.1) = lawF σ) : its.map (·.1) = lawE σ false := e.trans (lawE_false σ).symm
noncomputable abbrev deckN {w : World} {c : Addr} {n : Nat} {od oc : Obj} (_ : Deck w c n od oc) : Nat := n
theorem kw_WMain_2 : True := by
  k_with "my call ref" => ((fail_if_success k_extra "z64"); ((k_here; (with_reducible show wpAny _ _ (call (Value.ref 1280) _) _ _ _); k_dflt (refine' deck_new ?B_249 ?F_249 ?X_249 ?N_249 ?T_249 ?hk_249 ?hL_249 ?hI_249 ?hn_249 ?hd_249 ?hu_249 ?_; (case N_249 => k_asm); (case B_249 => assumption); (case F_249 => k_asm); (case X_249 => assumption); (case T_249 => assumption); (case hk_249 => rfl); (case hd_249 => ktr_room); (case hu_249 => ktr_units); (case hL_249 => assumption); (case hI_249 => assumption); (case hn_249 => assumption)); intro d' c' od' oc' D' hdc' fr' h' tk' F' N'; clear fr'; (replace N' := news_one N'); (have hS' : Sep [[(d', od'), (c', oc')]] := sep_one))))
  k_with "my call ref" => ((fail_if_success k_extra "z64"); ((k_here; (with_reducible show wpAny _ _ (call (Value.ref 1299) _) _ _ _); (rename Sep _ => hS'); (rename Fr _ _ _ _ => lF'); (rename News _ _ _ _ => lN'); (rename Deck _ _ _ _ _ => hD'); (rename @LT.lt Nat _ _ _ => hdc'); k_dflt (refine Cq.blk (lscreen_ok _ _ _ _ _ _ _ _ _ _ _ _ _ _ _ (by first | decide | omega) hD' hdc' (by decide) (by decide) (by decide)) (by (repeat (first | with_reducible exact At.here | apply At.tail))) hS' (by (intro p hp; repeat (first | with_reducible exact hp | refine List.mem_cons_of_mem _ ?_))) (by assumption) lF' (by assumption) lN' (by assumption) rfl (by ktr_room) (by ktr_units) ?_); (clear hS' lF' lN'); intro v1 l1 P1 hS' h' tk' F' N'; (obtain ⟨A1, σ1, T1, od1, oc1, e1, e2, O1, G1, q1, D1⟩ := P1); (subst e1); (subst e2); (clear hD'); (try dsimp only at hS' N'); k_dflt (replace hS' := sep_swap (a := scrD _ A1 T1 _ _ σ1) hS' (scr_deck O1 hdc' q1); replace N' := news_swap (a := scrD _ A1 T1 _ _ σ1) N'); (clear q1))))
  k_with "my call ref" => ((fail_if_success k_extra "z64"); ((k_here; (with_reducible show wpAny _ _ (call (Value.ref 1306) _) _ _ _); (rename Sep _ => hS'); (rename Fr _ _ _ _ => lF'); (rename News _ _ _ _ => lN'); k_dflt (refine Cr.blk (st_pn _ _ _ _ _ _ _ _ _ _ _ _ (by with_reducible assumption)) (by first | with_reducible exact mem_flat (List.mem_cons_self ..) | with_reducible exact mem_flat (List.mem_cons_of_mem _ (List.mem_cons_self ..)) | with_reducible exact mem_flat (List.mem_cons_of_mem _ (List.mem_cons_of_mem _ (List.mem_cons_self ..))) | with_reducible exact mem_flat (List.mem_cons_of_mem _ (List.mem_cons_of_mem _ (List.mem_cons_of_mem _ (List.mem_cons_self ..)))) | with_reducible exact mem_flat (List.mem_cons_of_mem _ (List.mem_cons_of_mem _ (List.mem_cons_of_mem _ (List.mem_cons_of_mem _ (List.mem_cons_self ..))))) | with_reducible exact mem_flat (List.mem_cons_of_mem _ (List.mem_cons_of_mem _ (List.mem_cons_of_mem _ (List.mem_cons_of_mem _ (List.mem_cons_of_mem _ (List.mem_cons_self ..)))))) | with_reducible exact mem_flat (List.mem_cons_of_mem _ (List.mem_cons_of_mem _ (List.mem_cons_of_mem _ (List.mem_cons_of_mem _ (List.mem_cons_of_mem _ (List.mem_cons_of_mem _ (List.mem_cons_self ..))))))) | with_reducible exact mem_flat (List.mem_cons_of_mem _ (List.mem_cons_of_mem _ (List.mem_cons_of_mem _ (List.mem_cons_of_mem _ (List.mem_cons_of_mem _ (List.mem_cons_of_mem _ (List.mem_cons_of_mem _ (List.mem_cons_self ..)))))))) | with_reducible exact mem_flat (List.mem_cons_of_mem _ (List.mem_cons_of_mem _ (List.mem_cons_of_mem _ (List.mem_cons_of_mem _ (List.mem_cons_of_mem _ (List.mem_cons_of_mem _ (List.mem_cons_of_mem _ (List.mem_cons_of_mem _ (List.mem_cons_self ..))))))))) | with_reducible exact mem_flat (List.mem_cons_of_mem _ (List.mem_cons_of_mem _ (List.mem_cons_of_mem _ (List.mem_cons_of_mem _ (List.mem_cons_of_mem _ (List.mem_cons_of_mem _ (List.mem_cons_of_mem _ (List.mem_cons_of_mem _ (List.mem_cons_of_mem _ (List.mem_cons_self ..)))))))))) | with_reducible exact mem_flat (List.mem_cons_of_mem _ (List.mem_cons_of_mem _ (List.mem_cons_of_mem _ (List.mem_cons_of_mem _ (List.mem_cons_of_mem _ (List.mem_cons_of_mem _ (List.mem_cons_of_mem _ (List.mem_cons_of_mem _ (List.mem_cons_of_mem _ (List.mem_cons_of_mem _ (List.mem_cons_self ..))))))))))) | with_reducible exact mem_flat (List.mem_cons_of_mem _ (List.mem_cons_of_mem _ (List.mem_cons_of_mem _ (List.mem_cons_of_mem _ (List.mem_cons_of_mem _ (List.mem_cons_of_mem _ (List.mem_cons_of_mem _ (List.mem_cons_of_mem _ (List.mem_cons_of_mem _ (List.mem_cons_of_mem _ (List.mem_cons_of_mem _ (List.mem_cons_self ..)))))))))))) | with_reducible exact mem_flat (List.mem_cons_of_mem _ (List.mem_cons_of_mem _ (List.mem_cons_of_mem _ (List.mem_cons_of_mem _ (List.mem_cons_of_mem _ (List.mem_cons_of_mem _ (List.mem_cons_of_mem _ (List.mem_cons_of_mem _ (List.mem_cons_of_mem _ (List.mem_cons_of_mem _ (List.mem_cons_of_mem _ (List.mem_cons_of_mem _ (List.mem_cons_self ..))))))))))))) | with_reducible exact mem_flat (List.mem_cons_of_mem _ (List.mem_cons_of_mem _ (List.mem_cons_of_mem _ (List.mem_cons_of_mem _ (List.mem_cons_of_mem _ (List.mem_cons_of_mem _ (List.mem_cons_of_mem _ (List.mem_cons_of_mem _ (List.mem_cons_of_mem _ (List.mem_cons_of_mem _ (List.mem_cons_of_mem _ (List.mem_cons_of_mem _ (List.mem_cons_of_mem _ (List.mem_cons_self ..))))))))))))))) hS' (by (intro p hp; repeat (first | with_reducible exact hp | refine List.mem_cons_of_mem _ ?_))) (by assumption) lF' (by assumption) lN' (by assumption) rfl (by ktr_room) (by ktr_units) ?_); (clear hS' lF' lN'); intro v1 l1 P1 hS' h' tk' F' N'; (obtain ⟨q', nl', k1', k2', shv', t0', t1', t2', t3', u0', u1', u2', u3', e1, e2, hv'⟩ := P1); (subst e1); (subst e2))))
  k_with "my call ref" => ((fail_if_success k_extra "z64"); ((k_here; (with_reducible show wpAny _ _ (call (Value.ref 1306) _) _ _ _); (rename Sep _ => hS'); (rename Fr _ _ _ _ => lF'); (rename News _ _ _ _ => lN'); k_dflt (refine Cr.blk (st_F _ _ _ _ _ _ _ _ _ _ _ (by with_reducible assumption)) (by first | with_reducible exact mem_flat (List.mem_cons_self ..) | with_reducible exact mem_flat (List.mem_cons_of_mem _ (List.mem_cons_self ..)) | with_reducible exact mem_flat (List.mem_cons_of_mem _ (List.mem_cons_of_mem _ (List.mem_cons_self ..))) | with_reducible exact mem_flat (List.mem_cons_of_mem _ (List.mem_cons_of_mem _ (List.mem_cons_of_mem _ (List.mem_cons_self ..)))) | with_reducible exact mem_flat (List.mem_cons_of_mem _ (List.mem_cons_of_mem _ (List.mem_cons_of_mem _ (List.mem_cons_of_mem _ (List.mem_cons_self ..))))) | with_reducible exact mem_flat (List.mem_cons_of_mem _ (List.mem_cons_of_mem _ (List.mem_cons_of_mem _ (List.mem_cons_of_mem _ (List.mem_cons_of_mem _ (List.mem_cons_self ..)))))) | with_reducible exact mem_flat (List.mem_cons_of_mem _ (List.mem_cons_of_mem _ (List.mem_cons_of_mem _ (List.mem_cons_of_mem _ (List.mem_cons_of_mem _ (List.mem_cons_of_mem _ (List.mem_cons_self ..))))))) | with_reducible exact mem_flat (List.mem_cons_of_mem _ (List.mem_cons_of_mem _ (List.mem_cons_of_mem _ (List.mem_cons_of_mem _ (List.mem_cons_of_mem _ (List.mem_cons_of_mem _ (List.mem_cons_of_mem _ (List.mem_cons_self ..)))))))) | with_reducible exact mem_flat (List.mem_cons_of_mem _ (List.mem_cons_of_mem _ (List.mem_cons_of_mem _ (List.mem_cons_of_mem _ (List.mem_cons_of_mem _ (List.mem_cons_of_mem _ (List.mem_cons_of_mem _ (List.mem_cons_of_mem _ (List.mem_cons_self ..))))))))) | with_reducible exact mem_flat (List.mem_cons_of_mem _ (List.mem_cons_of_mem _ (List.mem_cons_of_mem _ (List.mem_cons_of_mem _ (List.mem_cons_of_mem _ (List.mem_cons_of_mem _ (List.mem_cons_of_mem _ (List.mem_cons_of_mem _ (List.mem_cons_of_mem _ (List.mem_cons_self ..)))))))))) | with_reducible exact mem_flat (List.mem_cons_of_mem _ (List.mem_cons_of_mem _ (List.mem_cons_of_mem _ (List.mem_cons_of_mem _ (List.mem_cons_of_mem _ (List.mem_cons_of_mem _ (List.mem_cons_of_mem _ (List.mem_cons_of_mem _ (List.mem_cons_of_mem _ (List.mem_cons_of_mem _ (List.mem_cons_self ..))))))))))) | with_reducible exact mem_flat (List.mem_cons_of_mem _ (List.mem_cons_of_mem _ (List.mem_cons_of_mem _ (List.mem_cons_of_mem _ (List.mem_cons_of_mem _ (List.mem_cons_of_mem _ (List.mem_cons_of_mem _ (List.mem_cons_of_mem _ (List.mem_cons_of_mem _ (List.mem_cons_of_mem _ (List.mem_cons_of_mem _ (List.mem_cons_self ..)))))))))))) | with_reducible exact mem_flat (List.mem_cons_of_mem _ (List.mem_cons_of_mem _ (List.mem_cons_of_mem _ (List.mem_cons_of_mem _ (List.mem_cons_of_mem _ (List.mem_cons_of_mem _ (List.mem_cons_of_mem _ (List.mem_cons_of_mem _ (List.mem_cons_of_mem _ (List.mem_cons_of_mem _ (List.mem_cons_of_mem _ (List.mem_cons_of_mem _ (List.mem_cons_self ..))))))))))))) | with_reducible exact mem_flat (List.mem_cons_of_mem _ (List.mem_cons_of_mem _ (List.mem_cons_of_mem _ (List.mem_cons_of_mem _ (List.mem_cons_of_mem _ (List.mem_cons_of_mem _ (List.mem_cons_of_mem _ (List.mem_cons_of_mem _ (List.mem_cons_of_mem _ (List.mem_cons_of_mem _ (List.mem_cons_of_mem _ (List.mem_cons_of_mem _ (List.mem_cons_of_mem _ (List.mem_cons_self ..))))))))))))))) hS' (by (intro p hp; repeat (first | with_reducible exact hp | refine List.mem_cons_of_mem _ ?_))) (by assumption) lF' (by assumption) lN' (by assumption) rfl (by ktr_room) (by ktr_units) ?_); (clear hS' lF' lN'); intro v1 l1 P1 hS' h' tk' F' N'; (obtain ⟨q', nl', k1', k2', shv', t0', t1', t2', t3', u0', u1', u2', u3', e1, e2, hv'⟩ := P1); (subst e1); (subst e2))))
  k_with "my call ref" => ((fail_if_success k_extra "z64"); ((k_here; (with_reducible show wpAny _ _ (call (Value.ref 1321) _) _ _ _); (rename Sep _ => hS'); (rename Fr _ _ _ _ => lF'); (rename News _ _ _ _ => lN'); k_dflt (refine Cr.blkM (List.forall_mem_cons.mpr ⟨(by k_extra "my mf"), List.forall_mem_cons.mpr ⟨(by k_extra "my mf"), List.forall_mem_cons.mpr ⟨(by k_extra "my mf"), List.forall_mem_nil _⟩⟩⟩) (lfields_ok _ _ _ _ _ _ _ _ _ _ _ _ _ _ _ _ _ _ _ _ _ _ _ _ (by assumption) (by assumption) (by decide) (by decide)) hS' (by (intro p hp; repeat (first | with_reducible exact hp | refine List.mem_cons_of_mem _ ?_))) (by assumption) lF' (by assumption) lN' (by assumption) rfl (by ktr_room) (by ktr_units) ?_); (clear hS' lF' lN'); intro v1 l1 P1 hS' h' tk' F' N'; (obtain ⟨f', its', kf', e1, e2, hits'⟩ := P1); (subst e1); (subst e2); (have hF' := fld_ok (by assumption) hits'))))
  k_with "my call ref" => ((fail_if_success k_extra "z64"); ((k_here; (with_reducible show wpAny _ _ (call (Value.ref 133) _) _ _ _); (rename Sep _ => hS'); (rename Fr _ _ _ _ => lF'); (rename News _ _ _ _ => lN'); k_dflt (refine Cr.blk (cur_F _ _ _ _ _ _ _ _ _ _ _ (by with_reducible assumption) (by with_reducible assumption) (by decide) (by decide)) (by first | with_reducible exact mem_flat (List.mem_cons_self ..) | with_reducible exact mem_flat (List.mem_cons_of_mem _ (List.mem_cons_self ..)) | with_reducible exact mem_flat (List.mem_cons_of_mem _ (List.mem_cons_of_mem _ (List.mem_cons_self ..))) | with_reducible exact mem_flat (List.mem_cons_of_mem _ (List.mem_cons_of_mem _ (List.mem_cons_of_mem _ (List.mem_cons_self ..)))) | with_reducible exact mem_flat (List.mem_cons_of_mem _ (List.mem_cons_of_mem _ (List.mem_cons_of_mem _ (List.mem_cons_of_mem _ (List.mem_cons_self ..))))) | with_reducible exact mem_flat (List.mem_cons_of_mem _ (List.mem_cons_of_mem _ (List.mem_cons_of_mem _ (List.mem_cons_of_mem _ (List.mem_cons_of_mem _ (List.mem_cons_self ..)))))) | with_reducible exact mem_flat (List.mem_cons_of_mem _ (List.mem_cons_of_mem _ (List.mem_cons_of_mem _ (List.mem_cons_of_mem _ (List.mem_cons_of_mem _ (List.mem_cons_of_mem _ (List.mem_cons_self ..))))))) | with_reducible exact mem_flat (List.mem_cons_of_mem _ (List.mem_cons_of_mem _ (List.mem_cons_of_mem _ (List.mem_cons_of_mem _ (List.mem_cons_of_mem _ (List.mem_cons_of_mem _ (List.mem_cons_of_mem _ (List.mem_cons_self ..)))))))) | with_reducible exact mem_flat (List.mem_cons_of_mem _ (List.mem_cons_of_mem _ (List.mem_cons_of_mem _ (List.mem_cons_of_mem _ (List.mem_cons_of_mem _ (List.mem_cons_of_mem _ (List.mem_cons_of_mem _ (List.mem_cons_of_mem _ (List.mem_cons_self ..))))))))) | with_reducible exact mem_flat (List.mem_cons_of_mem _ (List.mem_cons_of_mem _ (List.mem_cons_of_mem _ (List.mem_cons_of_mem _ (List.mem_cons_of_mem _ (List.mem_cons_of_mem _ (List.mem_cons_of_mem _ (List.mem_cons_of_mem _ (List.mem_cons_of_mem _ (List.mem_cons_self ..)))))))))) | with_reducible exact mem_flat (List.mem_cons_of_mem _ (List.mem_cons_of_mem _ (List.mem_cons_of_mem _ (List.mem_cons_of_mem _ (List.mem_cons_of_mem _ (List.mem_cons_of_mem _ (List.mem_cons_of_mem _ (List.mem_cons_of_mem _ (List.mem_cons_of_mem _ (List.mem_cons_of_mem _ (List.mem_cons_self ..))))))))))) | with_reducible exact mem_flat (List.mem_cons_of_mem _ (List.mem_cons_of_mem _ (List.mem_cons_of_mem _ (List.mem_cons_of_mem _ (List.mem_cons_of_mem _ (List.mem_cons_of_mem _ (List.mem_cons_of_mem _ (List.mem_cons_of_mem _ (List.mem_cons_of_mem _ (List.mem_cons_of_mem _ (List.mem_cons_of_mem _ (List.mem_cons_self ..)))))))))))) | with_reducible exact mem_flat (List.mem_cons_of_mem _ (List.mem_cons_of_mem _ (List.mem_cons_of_mem _ (List.mem_cons_of_mem _ (List.mem_cons_of_mem _ (List.mem_cons_of_mem _ (List.mem_cons_of_mem _ (List.mem_cons_of_mem _ (List.mem_cons_of_mem _ (List.mem_cons_of_mem _ (List.mem_cons_of_mem _ (List.mem_cons_of_mem _ (List.mem_cons_self ..))))))))))))) | with_reducible exact mem_flat (List.mem_cons_of_mem _ (List.mem_cons_of_mem _ (List.mem_cons_of_mem _ (List.mem_cons_of_mem _ (List.mem_cons_of_mem _ (List.mem_cons_of_mem _ (List.mem_cons_of_mem _ (List.mem_cons_of_mem _ (List.mem_cons_of_mem _ (List.mem_cons_of_mem _ (List.mem_cons_of_mem _ (List.mem_cons_of_mem _ (List.mem_cons_of_mem _ (List.mem_cons_self ..))))))))))))))) hS' (by (intro p hp; repeat (first | with_reducible exact hp | refine List.mem_cons_of_mem _ ?_))) (by assumption) lF' (by assumption) lN' (by assumption) rfl (by ktr_room) (by ktr_units) ?_); (clear hS' lF' lN'); intro v1 l1 P1 hS' h' tk' F' N'; (obtain ⟨⟨tc', e1⟩, e2⟩ := P1); (subst e1); (subst e2))))
  k_with "my call ref" => ((fail_if_success k_extra "z64"); ((k_here; (with_reducible show wpAny _ _ (call (Value.ref 1335) _) _ _ _); (rename Sep _ => hS'); (rename Fr _ _ _ _ => lF'); (rename News _ _ _ _ => lN'); (rename Deck _ _ _ _ _ => hD'); (rename @LT.lt Nat _ _ _ => hdc'); k_dflt (refine spoilt_blk hD' (by omega) hdc' (by (repeat (first | with_reducible exact At.here | apply At.tail))) (by (repeat (first | with_reducible exact At.here | apply At.tail))) (by assumption) (by assumption) hS' (by (intro p hp; repeat (first | with_reducible exact hp | refine List.mem_cons_of_mem _ ?_))) (by assumption) lF' (by assumption) lN' (by assumption) rfl (by ktr_room) (by ktr_units) ?_); (clear hS' lF' lN'); intro bb' tb' n' od' oc' hsp' D' hn' hS' h' tk' F' N'; clear hD')))
  k_with "my call ref" => ((fail_if_success k_extra "z64"); ((k_here; (with_reducible show wpAny _ _ (call (Value.ref 152) _) _ _ _); (rename Sep _ => hS'); (rename Fr _ _ _ _ => lF'); (rename News _ _ _ _ => lN'); (rename Spoilt _ _ => hsp'); k_dflt (refine rcn_blk (by assumption) (by decide) (by decide) hsp' (by k_extra "my mf") hS' (by (intro p hp; repeat (first | with_reducible exact hp | refine List.mem_cons_of_mem _ ?_))) (by assumption) lF' (by assumption) lN' (by assumption) rfl (by ktr_room) (by ktr_units) ?_); (clear lF' lN'); intro h' tk' F' N'; clear hsp')))
  k_with "my call ref" => ((fail_if_success k_extra "z64"); ((k_here; (with_reducible show wpAny _ _ (call (Value.ref 1287) _) _ _ _); (rename Sep _ => hS'); (rename Fr _ _ _ _ => lF'); (rename News _ _ _ _ => lN'); (rename Deck _ _ _ _ _ => hD'); (rename @LT.lt Nat _ _ _ => hdc'); k_dflt (refine Cq.blk (draw_cq _ _ _ _ _ _ _ _ _ _ _ _ _ (by omega) (by decide) (by decide) hD' hdc') (by (repeat (first | with_reducible exact At.here | apply At.tail))) hS' (by (intro p hp; repeat (first | with_reducible exact hp | refine List.mem_cons_of_mem _ ?_))) (by assumption) lF' (by assumption) lN' (by assumption) rfl (by ktr_room) (by ktr_units) ?_); (clear hS' lF' lN'); intro v1 l1 P1 hS' h' tk' F' N'; (obtain ⟨x', tx', od2, oc2, e1, x0, x1, e2, D2⟩ := P1); (subst e1); (subst e2); (clear hD'); (try dsimp only at hS' N'))))
  k_with "my call ref" => ((fail_if_success k_extra "z64"); ((k_here; (with_reducible show wpAny _ _ (call (Value.ref 152) _) _ _ _); (rename Sep _ => hS'); (rename Fr _ _ _ _ => lF'); (rename News _ _ _ _ => lN'); k_dflt (refine rc_blk (by assumption) (by (repeat (first | with_reducible exact At.here | apply At.tail))) (lawE_or _ _) (by assumption) (by decide) (by decide) rfl hS' (by (intro p hp; repeat (first | with_reducible exact hp | refine List.mem_cons_of_mem _ ?_))) (by assumption) lF' (by assumption) lN' (by assumption) rfl (by ktr_room) (by ktr_units) ?_); (clear hS' lF' lN'); intro D2 T2 O2 hS' h' tk' F' N'; (try dsimp only at hS' N'))))
  k_with "my call ref" => ((fail_if_success k_extra "z64"); ((k_here; (with_reducible show wpAny _ _ (call (Value.ref 1328) _) _ _ _); (rename Sep _ => hS'); (rename Fr _ _ _ _ => lF'); (rename News _ _ _ _ => lN'); k_dflt (refine Cr.blkM (List.forall_mem_cons.mpr ⟨(by k_extra "my mf"), List.forall_mem_cons.mpr ⟨(by k_extra "my mf"), List.forall_mem_cons.mpr ⟨(by k_extra "my mf"), List.forall_mem_cons.mpr ⟨(by k_extra "my mf"), List.forall_mem_nil _⟩⟩⟩⟩) (put_ok _ _ _ _ _ _ _ _ _ _ _ _ _ _ _ _ _ _ _ _ _ _ _ _ _ _ _ _ _ _ _ _ (by assumption)) hS' (by (intro p hp; repeat (first | with_reducible exact hp | refine List.mem_cons_of_mem _ ?_))) (by assumption) lF' (by assumption) lN' (by assumption) rfl (by ktr_room) (by ktr_units) ?_); (clear hS' lF' lN'); intro v1 l1 P1 hS' h' tk' F' N'; (obtain ⟨qq', pp', v0', v1', tf', kq', e1, e2⟩ := P1); (subst e1); (subst e2))))
  k_with "my compareOp NotEq ref ref" => ((fail_if_success k_extra "z64"); ((k_here; (rename News _ _ _ _ => lN'); k_dflt (refine ne_states (s := ⟨_, _, _, _, _⟩) lN' (by ktr_units) (by ktr_units) (by k_extra "my mf") (by k_extra "my mf") (by k_extra "my mf") (by k_extra "my mf") (by k_extra "my mf") (by k_extra "my mf") (by assumption) (by assumption) (by first | exact put_eq (by assumption) (by assumption) | exact ⟨⟨rfl, rfl, rfl, rfl, rfl, rfl, rfl, rfl, rfl⟩, ⟨rfl, rfl, rfl, rfl, rfl⟩, rfl, rfl, rfl, rfl⟩) ?_))))
  k_with "my exec If" => ((fail_if_success k_extra "z64"); ((k_here; (with_reducible show wpAny _ _ (exec (PySem.Stmt.If (PySem.Expr.Compare (PySem.Expr.Call (PySem.Expr.Name (PySem.Str.ofString "_law_draw") _) _ _ _) _ _ _) _ _ _) _) _ _ _); (fail_if_success (rename EndR _ _ _ _ _ _ _ _ _ _ _ _ => hR)); (rename Sep _ => hS'); (rename News _ _ _ _ => lN'); (rename Deck _ _ _ _ _ => hD'); (rename Fr _ _ _ _ => lF'); k_dflt (refine if_join hD' (by assumption) (by (repeat (first | with_reducible exact At.here | apply At.tail))) (by (repeat (first | with_reducible exact At.here | apply At.tail))) hS' lF' lN' ?_ ?_); all_goals (first | (with_reducible intro R hS2 lN2 hR; clear hS' lN') | (clear hS' lN' lF' hD'; unfold EndR; intro its' b' k' od' oc' n' h' tk' e' D' hn' hS' F' N'; k_dflt (have hl' := lawE_len _ b' ‹Good _ 3 9›))))))
  k_with "my subscriptTail" => ((fail_if_success k_extra "z64"); ((k_here; (with_reducible show wpAny _ _ (subscriptTail _ _ (Value.ref _) (Value.int 3 _)) _ _ _); (rename News _ _ _ _ => lN'); k_dflt (refine item_fld (s := ⟨_, _, _, _, _⟩) lN' (by first | exact List.mem_cons_self .. | (refine mem_flat (List.mem_cons_self ..) _ ?_; k_mem) | (refine mem_flat (List.mem_cons_of_mem _ (List.mem_cons_self ..)) _ ?_; k_mem) | (refine mem_flat (List.mem_cons_of_mem _ (List.mem_cons_of_mem _ (List.mem_cons_self ..))) _ ?_; k_mem) | (refine mem_flat (List.mem_cons_of_mem _ (List.mem_cons_of_mem _ (List.mem_cons_of_mem _ (List.mem_cons_self ..)))) _ ?_; k_mem) | (refine mem_flat (List.mem_cons_of_mem _ (List.mem_cons_of_mem _ (List.mem_cons_of_mem _ (List.mem_cons_of_mem _ (List.mem_cons_self ..))))) _ ?_; k_mem) | (refine mem_flat (List.mem_cons_of_mem _ (List.mem_cons_of_mem _ (List.mem_cons_of_mem _ (List.mem_cons_of_mem _ (List.mem_cons_of_mem _ (List.mem_cons_self ..)))))) _ ?_; k_mem) | (refine mem_flat (List.mem_cons_of_mem _ (List.mem_cons_of_mem _ (List.mem_cons_of_mem _ (List.mem_cons_of_mem _ (List.mem_cons_of_mem _ (List.mem_cons_of_mem _ (List.mem_cons_self ..))))))) _ ?_; k_mem) | (refine mem_flat (List.mem_cons_of_mem _ (List.mem_cons_of_mem _ (List.mem_cons_of_mem _ (List.mem_cons_of_mem _ (List.mem_cons_of_mem _ (List.mem_cons_of_mem _ (List.mem_cons_of_mem _ (List.mem_cons_self ..)))))))) _ ?_; k_mem) | (refine mem_flat (List.mem_cons_of_mem _ (List.mem_cons_of_mem _ (List.mem_cons_of_mem _ (List.mem_cons_of_mem _ (List.mem_cons_of_mem _ (List.mem_cons_of_mem _ (List.mem_cons_of_mem _ (List.mem_cons_of_mem _ (List.mem_cons_self ..))))))))) _ ?_; k_mem) | (refine mem_flat (List.mem_cons_of_mem _ (List.mem_cons_of_mem _ (List.mem_cons_of_mem _ (List.mem_cons_of_mem _ (List.mem_cons_of_mem _ (List.mem_cons_of_mem _ (List.mem_cons_of_mem _ (List.mem_cons_of_mem _ (List.mem_cons_of_mem _ (List.mem_cons_self ..)))))))))) _ ?_; k_mem) | (refine mem_flat (List.mem_cons_of_mem _ (List.mem_cons_of_mem _ (List.mem_cons_of_mem _ (List.mem_cons_of_mem _ (List.mem_cons_of_mem _ (List.mem_cons_of_mem _ (List.mem_cons_of_mem _ (List.mem_cons_of_mem _ (List.mem_cons_of_mem _ (List.mem_cons_of_mem _ (List.mem_cons_self ..))))))))))) _ ?_; k_mem) | (refine mem_flat (List.mem_cons_of_mem _ (List.mem_cons_of_mem _ (List.mem_cons_of_mem _ (List.mem_cons_of_mem _ (List.mem_cons_of_mem _ (List.mem_cons_of_mem _ (List.mem_cons_of_mem _ (List.mem_cons_of_mem _ (List.mem_cons_of_mem _ (List.mem_cons_of_mem _ (List.mem_cons_of_mem _ (List.mem_cons_self ..)))))))))))) _ ?_; k_mem) | (refine mem_flat (List.mem_cons_of_mem _ (List.mem_cons_of_mem _ (List.mem_cons_of_mem _ (List.mem_cons_of_mem _ (List.mem_cons_of_mem _ (List.mem_cons_of_mem _ (List.mem_cons_of_mem _ (List.mem_cons_of_mem _ (List.mem_cons_of_mem _ (List.mem_cons_of_mem _ (List.mem_cons_of_mem _ (List.mem_cons_of_mem _ (List.mem_cons_self ..))))))))))))) _ ?_; k_mem) | (refine mem_flat (List.mem_cons_of_mem _ (List.mem_cons_of_mem _ (List.mem_cons_of_mem _ (List.mem_cons_of_mem _ (List.mem_cons_of_mem _ (List.mem_cons_of_mem _ (List.mem_cons_of_mem _ (List.mem_cons_of_mem _ (List.mem_cons_of_mem _ (List.mem_cons_of_mem _ (List.mem_cons_of_mem _ (List.mem_cons_of_mem _ (List.mem_cons_of_mem _ (List.mem_cons_self ..)))))))))))))) _ ?_; k_mem)) (by assumption) ?_); intro t')))
  k_with "my subscriptTail Name Constant ref int" => ((fail_if_success k_extra "z64"); ((k_here; (with_reducible show wpAny _ _ (subscriptTail _ _ (Value.ref _) (Value.int 3 _)) _ _ _); (rename News _ _ _ _ => lN'); k_dflt (refine item_fld (s := ⟨_, _, _, _, _⟩) lN' (by first | exact List.mem_cons_self .. | (refine mem_flat (List.mem_cons_self ..) _ ?_; k_mem) | (refine mem_flat (List.mem_cons_of_mem _ (List.mem_cons_self ..)) _ ?_; k_mem) | (refine mem_flat (List.mem_cons_of_mem _ (List.mem_cons_of_mem _ (List.mem_cons_self ..))) _ ?_; k_mem) | (refine mem_flat (List.mem_cons_of_mem _ (List.mem_cons_of_mem _ (List.mem_cons_of_mem _ (List.mem_cons_self ..)))) _ ?_; k_mem) | (refine mem_flat (List.mem_cons_of_mem _ (List.mem_cons_of_mem _ (List.mem_cons_of_mem _ (List.mem_cons_of_mem _ (List.mem_cons_self ..))))) _ ?_; k_mem) | (refine mem_flat (List.mem_cons_of_mem _ (List.mem_cons_of_mem _ (List.mem_cons_of_mem _ (List.mem_cons_of_mem _ (List.mem_cons_of_mem _ (List.mem_cons_self ..)))))) _ ?_; k_mem) | (refine mem_flat (List.mem_cons_of_mem _ (List.mem_cons_of_mem _ (List.mem_cons_of_mem _ (List.mem_cons_of_mem _ (List.mem_cons_of_mem _ (List.mem_cons_of_mem _ (List.mem_cons_self ..))))))) _ ?_; k_mem) | (refine mem_flat (List.mem_cons_of_mem _ (List.mem_cons_of_mem _ (List.mem_cons_of_mem _ (List.mem_cons_of_mem _ (List.mem_cons_of_mem _ (List.mem_cons_of_mem _ (List.mem_cons_of_mem _ (List.mem_cons_self ..)))))))) _ ?_; k_mem) | (refine mem_flat (List.mem_cons_of_mem _ (List.mem_cons_of_mem _ (List.mem_cons_of_mem _ (List.mem_cons_of_mem _ (List.mem_cons_of_mem _ (List.mem_cons_of_mem _ (List.mem_cons_of_mem _ (List.mem_cons_of_mem _ (List.mem_cons_self ..))))))))) _ ?_; k_mem) | (refine mem_flat (List.mem_cons_of_mem _ (List.mem_cons_of_mem _ (List.mem_cons_of_mem _ (List.mem_cons_of_mem _ (List.mem_cons_of_mem _ (List.mem_cons_of_mem _ (List.mem_cons_of_mem _ (List.mem_cons_of_mem _ (List.mem_cons_of_mem _ (List.mem_cons_self ..)))))))))) _ ?_; k_mem) | (refine mem_flat (List.mem_cons_of_mem _ (List.mem_cons_of_mem _ (List.mem_cons_of_mem _ (List.mem_cons_of_mem _ (List.mem_cons_of_mem _ (List.mem_cons_of_mem _ (List.mem_cons_of_mem _ (List.mem_cons_of_mem _ (List.mem_cons_of_mem _ (List.mem_cons_of_mem _ (List.mem_cons_self ..))))))))))) _ ?_; k_mem) | (refine mem_flat (List.mem_cons_of_mem _ (List.mem_cons_of_mem _ (List.mem_cons_of_mem _ (List.mem_cons_of_mem _ (List.mem_cons_of_mem _ (List.mem_cons_of_mem _ (List.mem_cons_of_mem _ (List.mem_cons_of_mem _ (List.mem_cons_of_mem _ (List.mem_cons_of_mem _ (List.mem_cons_of_mem _ (List.mem_cons_self ..)))))))))))) _ ?_; k_mem) | (refine mem_flat (List.mem_cons_of_mem _ (List.mem_cons_of_mem _ (List.mem_cons_of_mem _ (List.mem_cons_of_mem _ (List.mem_cons_of_mem _ (List.mem_cons_of_mem _ (List.mem_cons_of_mem _ (List.mem_cons_of_mem _ (List.mem_cons_of_mem _ (List.mem_cons_of_mem _ (List.mem_cons_of_mem _ (List.mem_cons_of_mem _ (List.mem_cons_self ..))))))))))))) _ ?_; k_mem) | (refine mem_flat (List.mem_cons_of_mem _ (List.mem_cons_of_mem _ (List.mem_cons_of_mem _ (List.mem_cons_of_mem _ (List.mem_cons_of_mem _ (List.mem_cons_of_mem _ (List.mem_cons_of_mem _ (List.mem_cons_of_mem _ (List.mem_cons_of_mem _ (List.mem_cons_of_mem _ (List.mem_cons_of_mem _ (List.mem_cons_of_mem _ (List.mem_cons_of_mem _ (List.mem_cons_self ..)))))))))))))) _ ?_; k_mem)) (by assumption) ?_); intro t')))
  k_with "my subscriptTail" => ((fail_if_success k_extra "z64"); ((k_here; (with_reducible show wpAny _ _ (subscriptTail _ _ (Value.bytes (byteArr [_]) _) (Value.int 0 _)) _ _ _); k_dflt (refine byte_fld (s := ⟨_, _, _, _, _⟩) (in_looks0 _) ?_); intro t' tk')))
  k_with "my call type:bytes" => ((fail_if_success k_extra "z64"); ((k_here; (rename Fr _ _ _ _ => lF'); (rename News _ _ _ _ => lN'); k_dflt (refine KBa.make_K lF' lN' (by rfl) (News.isList lN' (List.mem_cons_self ..)) (.cons _ _ .nil) (in_looks _) (Nat.le_of_ble_eq_true rfl) ?_); (clear lF' lN'); intro h' t' k' F' N' i')))
  k_with "my setItem ref int" => ((fail_if_success k_extra "z64"); ((k_here; (rename Sep _ => hS'); (rename Fr _ _ _ _ => lF'); (rename News _ _ _ _ => lN'); k_dflt (refine set_bys (s := ⟨_, _, _, _, _⟩) lF' (News.tl lN') ((upd_flat hS').upd (Upd.head (fun _ h => nomatch h))) (by decide) (by decide) (its_len (by assumption)) ?_); (clear lF' lN'); intro h' F' N')))
  k_with "my call ref" => ((fail_if_success k_extra "z64"); ((k_here; (with_reducible show wpAny _ _ (call (Value.ref 1340) _) _ _ _); (rename Sep _ => hS'); (rename Fr _ _ _ _ => lF'); (rename News _ _ _ _ => lN'); (rename Deck _ _ _ _ _ => hD'); (rename @LT.lt Nat _ _ _ => hdc'); k_dflt (refine tabs_blk (by assumption) (by assumption) hD' (by omega) hdc' (by (repeat (first | with_reducible exact At.here | apply At.tail))) (by (repeat (first | with_reducible exact At.here | apply At.tail))) hS' (by (intro p hp; repeat (first | with_reducible exact hp | refine List.mem_cons_of_mem _ ?_))) (by assumption) lF' (by assumption) lN' (by assumption) rfl (by ktr_room) (by ktr_units) ?_); (clear hS' lF' lN'); intro hS' h' tk' F' N'; skip)))
  k_with "my setAttr ref" => ((fail_if_success k_extra "z64"); ((k_here; (with_reducible show wpAny _ _ (setAttr (Value.ref _) (PySem.Str.ofString "pen") _) _ _ _); (rename Sep _ => hS'); (rename Fr _ _ _ _ => lF'); (rename News _ _ _ _ => lN'); (rename (∀ _, _ → Prod.fst _ < _) => l1'); k_dflt (refine set_pen5 rfl (by assumption) lF' (by assumption) lN' l1' (by (repeat (first | with_reducible exact At.here | apply At.tail))) ?_); (clear hS' lF' lN' l1'); intro h' T' F' N' O'; k_dflt (have G' := good_pen ‹Good _ 3 9› (-1) (-1) (-1) 0))))
  k_with "my call ref" => ((fail_if_success k_extra "z64"); ((k_here; (with_reducible show wpAny _ _ (call (Value.ref 133) _) _ _ _); (fail_if_success (rename Sep _ => hS')); (rename Fr _ _ _ _ => lF'); (rename News _ _ _ _ => lN'); k_dflt (refine Cr.use (cur_pn _ _ _ _ _ _ _ _ _ _ _ _ (by assumption) (by assumption) (by decide) (by decide)) (fun _ h => h) (by assumption) lF' (by assumption) lN' (by assumption) rfl (by ktr_room) (by ktr_units) ?_); (clear lF' lN'); intro v1 l1 P1 ap1 h' tk' F' N'; (obtain ⟨⟨tc', e1⟩, e2⟩ := P1); (subst e1); (subst e2))))
  k_with "my call builtin:bytes.split" => ((fail_if_success k_extra "z64"); ((k_here; (rename Fr _ _ _ _ => lF'); (rename News _ _ _ _ => lN'); k_dflt (refine bytes_split2 (s := ⟨_, _, _, _, _⟩) _ lF' lN' (law_cuts (by assumption) (by decide) (by decide)) ?_); (clear lF' lN'); intro D' its' h' tk' e' F' N' l1')))
  k_with "my compareOp Eq bytes bytes" => ((fail_if_success k_extra "z64"); ((k_here; k_dflt (refine eq_same (looks_B _ _ _ _ _) ?_))))
  k_with "my getMethod bytes" => ((fail_if_success k_extra "z64"); ((k_here; first | (with_reducible refine meth_join ?_) | (with_reducible refine meth_split ?_))))
  k_with "my call builtin:bytes.join" => ((fail_if_success k_extra "z64"); ((k_here; k_dflt (refine join_law (s := ⟨_, _, _, _, _⟩) (by k_asm) (by k_asm) (by k_extra "my mf") (by assumption) (by assumption) ?_); intro t' tk')))
  k_with "my compareOp NotEq bytes bytes" => ((fail_if_success k_extra "z64"); ((k_here; k_dflt (refine ne_same rfl ?_))))
  trivial
noncomputable def LawC (w : World) (p : Program) (loose : List Str) (mean : ExcName → Option Value) (mg mb : Str → Option Value) (qual : Str) (scope : Scope) (f : Addr) (cdv : Value) (body : List Stmt) : Prop :=
  ∀ (dp un : Nat) (gd : Option (List Code)) (outer : List Env) (A₀ : Around) (base g : Heap) (L : Addr) (h : Heap) (tk : Nat) (gs : Array GenState) (dr : Drawn) (os : OsState) (Q : Flow → Shared → Prop) (q : Addr) (vs : List Value) (ns : List Int),
    Below A₀ base outer g → (KK w.params).In g → Top p loose mean mg mb g → Fr g L h (fun y => [(Str.ofString "script", Value.ref q)].reverse.lookup y) → News g L h [] → base.IsList q vs.toArray → IntsAre vs ns → ns.length ≤ 63 → dp + 60 < recursionLimit → un + 100 * 60 < cLine →
    (∀ h' tk' m', Fr g L h' m' → Q (.ret (.bool true)) ⟨h', gs, dr, tk', os⟩) →
    wpAny (model pw w) (ktrTop dp un gd qual scope L f cdv [] outer) (execs body (envX qual scope L f cdv [])) Q (fun _ _ => False) ⟨h, gs, dr, tk, os⟩
theorem law_gen {w : World} {p : Program} {loose : List Str} {mean : ExcName → Option Value} {mg mb : Str → Option Value} {qual : Str} {scope : Scope} {f : Addr} {cdv : Value} {body : List Stmt} {g : Heap} {L q : Addr} {vs : List Value} {ns : List Int} {s : Shared} {Q : Flow → Shared → Prop} {E : Value → Shared → Prop}
    (X : (KK w.params).In g) (T : Top p loose mean mg mb g) (F : Fr g L s.heap (fun y => [(Str.ofString "script", Value.ref q)].reverse.lookup y)) (N : News g L s.heap []) (hL : g.IsList q vs.toArray) (hI : IntsAre vs ns) (hn : ns.length ≤ 63)
    (r : ∀ h' tk' m', Fr g L h' m' → Q (.ret (.bool true)) { s with heap := h', toks := tk' }) (C : LawC w p loose mean mg mb qual scope f cdv body) :
    wpAny (model pw w) (callerA.deeper (envOf qual scope L f cdv)) (execs body (envOf qual scope L f cdv)) Q E s :=
  wpAny_mono (C (1 + claimMargin + 1) (4 + 3) (some []) [] callerA g g L s.heap s.toks s.gens s.drawn s.os Q q vs ns (below_caller g) X T F N hL hI hn (by decide) (by decide) r) (fun _ _ h => h) fun _ _ h => h.elim
theorem main_aux {qual : Str} {scope : Scope} {body : List Stmt} (key : ∀ (w : World) (mean : ExcName → Option Value) (mg mb : Str → Option Value) (f : Addr) (cdv : Value), LawC w qv (looseW qv looseL) mean mg mb qual scope f cdv body)
    (k : (∀ (w : World) (mean : ExcName → Option Value) (mg mb : Str → Option Value) (f : Addr) (cdv : Value), LawC w qv (looseW qv looseL) mean mg mb qual scope f cdv body) → PySem.Challenge.rw_og0294_01.Holds) : PySem.Challenge.rw_og0294_01.Holds := k key
set_option maxHeartbeats 8000000 in
theorem main : PySem.Challenge.rw_og0294_01.Holds := _root_.id <| by
  w_on
  refine' main_aux ?walk ?main
  case main =>
    intro key
    refine head_1 (by rfl) (by rfl) (by rfl) ?_
    intro w s₀ s₁ mg mb G Y fa o pm cd doc dV kV ho hd hcd hD hmg hg args vals as hpre hlay hrd hwl hlo
    have KX := kIn_of Y
    refine Ground.open G ?_
    intro T B D TE TW
    try (refine guard_noD D (by decide +kernel) ?_; clear D)
    have TA := at_of_top T
    try (obtain ⟨_, _, he, B0⟩ := based_of_top T rfl hmg ho hd; have he' : cd = _ := he; subst he'; clear he)
    clear hmg
    wrow_args hpre hlay hrd hwl hlo
    first | refine callC_kw (enter_call ?_) | refine enter_call ?_ | refine callC_kw (enter_callW ?_) | refine enter_callW ?_
    w_top on
    try refine codeAny_mono ?_ (fun _ _ g => GoodW.toG g)
    have K0 := below_caller (Top.heap T)
    w_call any ho hd hcd hD T F
    clear hd TA
    k_drop
    k_dflt (refine law_gen KX (by assumption) (by assumption) (by assumption) (by assumption) (by assumption) (by omega) ?_ (key _ _ _ _ _ _))
    intro h' tk' m' F'
    (try dsimp only)
    wrow_close
  intro w mean mg mb f cdv
  have HT := tabs_all w qv (looseW qv looseL) mean mg mb
  intro dp un gd outer A₀ base g L h tk gs dr os Q q vs ns B X Tp F N hL hI hn hd hu r
  revert HT B X Tp F N hL hI hn hd hu r
  revert w mean mg mb f cdv dp un gd outer A₀ base g L h tk gs dr os Q q vs ns
  k_extra "my d14"; intros w mean mg mb f cdv dp un gd outer A₀ base g L; k_extra "my of"
  k_extra "my d8"; intros h tk gs dr os Q q vs; k_extra "my of"
  k_extra "my d1"; intros ns; k_extra "my of"
  intros HT B X Tp F N hL hI hn hd hu r
  haveI mk : Mark := Mark.mk
  k_extra "my kclose"
  repeat' (first | ((with_reducible show ((_ : Flow → Shared → Prop) (Flow.ret (Value.bool true)) _)); (rename Fr _ _ _ _ => lF); exact r _ _ _ lF) | ((with_reducible show ((_ : Flow → Shared → Prop) Flow.next _)); (rename EndR _ _ _ _ _ _ _ _ _ _ _ _ => hR); (rename Sep _ => hS); (rename Fr _ _ _ _ => lF); (rename News _ _ _ _ => lN); (rename Deck _ _ _ _ _ => hD); first | exact hR _ false _ _ _ _ _ _ (e_false (by assumption)) hD (by omega) hS lF lN | exact hR _ true _ _ _ _ _ _ (its_set (by assumption)) hD (by omega) (sep_fld hS) lF lN) | (k_unfold; (try dsimp only); k_extra "my kf") | (walk1; (try dsimp only); k_extra "my kf") | (dsimp only; walk1) | (leave1; try dsimp only) | (exfalso; omega))
end
end Mine
set_option maxRecDepth 100000 in
theorem PySem.Challenge.cw_og0294_01_holds : PySem.Challenge.rw_og0294_01.Holds :=
  Mine.main
