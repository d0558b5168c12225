import PyProof.Rows.All
import Wide.All
import OpenK.AllK
import Wide.FinOn
import Lean
import PySem.Challenge.RW_nt0055_01
open PySem PySem.W PySem.Calls PyProof.Rows
set_option Elab.async false
set_option maxRecDepth 1000000
set_option maxHeartbeats 0
set_option linter.all false
namespace UniH

noncomputable abbrev hs (x : String) (t : Nat) : Value := .str (Str.ofString x) t
noncomputable abbrev hr (a : Nat) : Value := .ref a
noncomputable abbrev hi (i : Int) (t : Nat) : Value := .int i t
noncomputable abbrev he (P : Params) (x : String) (t : Nat) (v : Value) : DictEntry := ⟨PyData.keyHash P (Str.ofString x), .str (Str.ofString x) t, v⟩
noncomputable abbrev hT (l : List Value) : Obj := ⟨.type "tuple", none, .seq l.toArray 0, #[]⟩
noncomputable abbrev hC (l : List Value) : Obj := ⟨.type "code", none, .fields l.toArray, #[]⟩
noncomputable abbrev pwC : Program := PySem.Challenge.pw_nt0055_01
noncomputable def stAt (i j : Nat) : Option Stmt := match pwC.main.body[i]? with
  | some (.ClassDef _ _ _ b _ _ _ _ _ _ _) => b[j]?
  | s => s
noncomputable abbrev hF {n p b d r y sc ts bi po} (i j : Nat) (_ : stAt i j = some (.FunctionDef n p b d r y sc ts bi po)) (q : String) (c : Nat) (m v : Value) : Obj :=
  ⟨.type "function", none, .func { name := n, qualname := Str.ofString q, params := p, body := .stmts b, scope := sc, globals := 3, closure := [], defaults := v, kwdefaults := .none, pyModule := m, code := .ref c }, #[]⟩
noncomputable abbrev o2 : Obj := ⟨.none, none, (.dict #[] 0), #[]⟩
noncomputable abbrev o3 (P : Params) : Obj := ⟨(.type "dict"), none, (.dict #[he P "__name__" 165 (hs "law_nt0055_01" 860), he P "__doc__" 166 .none, he P "__package__" 167 .none, he P "__loader__" 168 (.builtin "__main__.__loader__#opaque"), he P "__spec__" 169 .none, he P "__annotations__" 170 (hr 6), he P "__builtins__" 171 (hr 4), he P "__file__" 173 (hs "/claim/cut.py" 172), he P "__cached__" 174 .none, he P "_wall" 193 (hr 21), he P "boundary_sure_words" 206 (hr 28), he P "LookBack" 246 (hr 52), he P "Breaker" 318 (hr 105), he P "SYLLABLE_FIRST" 322 (hi 44032 321), he P "LEADS" 324 (hi 19 323), he P "VOWELS" 326 (hi 21 325), he P "TAILS" 328 (hi 28 327), he P "SYLLABLES" 331 (hi 11172 330), he P "is_hangul_syllable" 338 (hr 116), he P "hangul_kind" 345 (hr 123), he P "CLUSTER_ENDS" 351 (hr 124), he P "CLUSTER_MARKS" 354 (hr 125), he P "CLUSTER_JOINTS" 357 (hr 126), he P "cluster_kind" 367 (hr 133), he P "cluster_hangul_joins" 375 (hr 140), he P "cluster_pair" 384 (hr 147), he P "cluster_is_conjunct" 396 (hr 154), he P "cluster_is_joined_picture" 406 (hr 161), he P "cluster_flags_before" 416 (hr 168), he P "cluster_is_flag" 425 (hr 175), he P "cluster_break" 436 (hr 183), he P "cluster_is_sure" 447 (hr 190), he P "MAX_CODE" 451 (hi 1114111 450), he P "place_by_half" 462 (hr 197), he P "range_are_like" 472 (hr 204), he P "RangeMap" 541 (hr 249), he P "data_defaults" 551 (hr 260), he P "Data" 610 (hr 298), he P "SENTENCE_PARAS" 616 (hr 303), he P "SENTENCE_HANGERS" 619 (hr 304), he P "SENTENCE_TERMS" 622 (hr 305), he P "SENTENCE_CASED" 625 (hr 306), he P "SENTENCE_STOPS" 634 (hr 307), he P "SENTENCE_NEVER" 644 (hr 308), he P "SENTENCE_ROW" 649 (hr 309), he P "sentence_kind" 658 (hr 316), he P "sentence_hangs" 667 (hr 323), he P "sentence_base" 676 (hr 330), he P "sentence_tail" 688 (hr 337), he P "sentence_goes_on" 698 (hr 344), he P "sentence_is_abbreviated" 709 (hr 351), he P "sentence_break" 724 (hr 358), he P "WORD_ENDS" 730 (hr 359), he P "WORD_SKIPPED" 734 (hr 360), he P "WORD_LETTERS" 737 (hr 361), he P "WORD_PLAIN" 741 (hr 362), he P "WORD_JOINED" 746 (hr 363), he P "WORD_IN_LETTERS" 750 (hr 364), he P "WORD_IN_NUMBERS" 754 (hr 365), he P "WordPlaces" 819 (hr 410), he P "word_bridges" 828 (hr 421), he P "word_is_joined" 839 (hr 428), he P "word_rule" 850 (hr 435), he P "word_break" 859 (hr 442), he P "_law_clusters" 867 (hr 449), he P "_law_words" 873 (hr 456), he P "_law_sentences" 879 (hr 463), he P "_law_deck" 885 (hr 468), he P "_law_draw" 893 (hr 475), he P "_law_count" 902 (hr 482), he P "_law_cluster" 908 (hr 487), he P "_law_kept" 914 (hr 492), he P "_law_word" 920 (hr 497), he P "_law_sentence" 926 (hr 502), he P "_law_told_right" 932 (hr 507), he P "law" 938 (hr 512)] 76), #[]⟩
noncomputable abbrev o15 : Obj := hT []
noncomputable abbrev o17 : Obj := hT [(hs "k" 190)]
noncomputable abbrev o18 : Obj := hT []
noncomputable abbrev o20 : Obj := hC [(hs "_wall" 187), (hs "_wall" 188), (hs "/claim/cut.py" 189), (hi 1 0), (hi 1 0), (hi 0 0), (hi 0 0), (hi 3 0), (hr 15), (.bool true), (hi 181 0), (hr 16), .none, (hr 17), (hr 18), (hr 19), (hi 191 0), (hi 1 0), (hs "/claim/cut.py" 192)]
noncomputable abbrev o21 : Obj := hF 0 0 rfl "_wall" 20 (hs "__main__" 164) .none
noncomputable abbrev o22 : Obj := hT []
noncomputable abbrev o24 : Obj := hT [(hs "before" 199), (hs "behind" 200), (hs "data" 201), (hs "one" 202), (hs "other" 203)]
noncomputable abbrev o25 : Obj := hT []
noncomputable abbrev o27 : Obj := hC [(hs "boundary_sure_words" 196), (hs "boundary_sure_words" 197), (hs "/claim/cut.py" 198), (hi 5 0), (hi 3 0), (hi 0 0), (hi 0 0), (hi 3 0), (hr 22), (.bool true), (hi 181 0), (hr 23), .none, (hr 24), (hr 25), (hr 26), (hi 204 0), (hi 5 0), (hs "/claim/cut.py" 205)]
noncomputable abbrev o28 : Obj := hF 2 0 rfl "boundary_sure_words" 27 (hs "unicore.boundaries" 194) .none
noncomputable abbrev o36 : Obj := hT []
noncomputable abbrev o38 : Obj := hT [(hs "self" 222), (hs "told" 223), (hs "data" 224)]
noncomputable abbrev o39 : Obj := hT []
noncomputable abbrev o41 : Obj := hC [(hs "__init__" 219), (hs "LookBack.__init__" 220), (hs "/claim/cut.py" 221), (hi 12 0), (hi 3 0), (hi 0 0), (hi 0 0), (hi 3 0), (hr 36), (.bool true), (hi 181 0), (hr 37), .none, (hr 38), (hr 39), (hr 40), (hi 225 0), (hi 12 0), (hs "/claim/cut.py" 226)]
noncomputable abbrev o42 : Obj := hF 3 0 rfl "LookBack.__init__" 41 (hs "unicore.boundaries" 194) .none
noncomputable abbrev o43 : Obj := hT []
noncomputable abbrev o45 : Obj := hT [(hs "self" 231), (hs "before" 232), (hs "behind" 233)]
noncomputable abbrev o46 : Obj := hT []
noncomputable abbrev o48 : Obj := hC [(hs "is_sure" 228), (hs "LookBack.is_sure" 229), (hs "/claim/cut.py" 230), (hi 16 0), (hi 3 0), (hi 0 0), (hi 0 0), (hi 3 0), (hr 43), (.bool true), (hi 181 0), (hr 44), .none, (hr 45), (hr 46), (hr 47), (hi 234 0), (hi 16 0), (hs "/claim/cut.py" 235)]
noncomputable abbrev o49 : Obj := hF 3 1 rfl "LookBack.is_sure" 48 (hs "unicore.boundaries" 194) .none
noncomputable abbrev o50 : Obj := hT [(hs "data" 237), (hs "told" 238)]
noncomputable abbrev o51 (P : Params) : Obj := ⟨(.type "dict"), none, (.dict #[he P "__module__" 214 (hs "unicore.boundaries" 194), he P "__firstlineno__" 218 (hi 10 217), he P "__init__" 227 (hr 42), he P "is_sure" 236 (hr 49), he P "__static_attributes__" 239 (hr 50), he P "__dict__" 241 (hr 53), he P "__weakref__" 243 (hr 54), he P "__doc__" 244 .none] 4), #[]⟩
noncomputable abbrev o52 : Obj := ⟨(.type "type"), none, (.cls { name := .ofString "LookBack", bases := [(.type "object")], mro := [(hr 52), (.type "object")], ns := 51, qualname := .ofString "LookBack" }), #[none, none, some (hs "LookBack" 207), some (hs "LookBack" 215), some (.builtin "object.__new__"), some (.bool true)]⟩
noncomputable abbrev o53 : Obj := ⟨(.type "getset_descriptor"), none, (.fields [(hs "__dict__" 240), (hr 52), (.builtin "function.__dict__"), (.builtin "function.__dict__#set")].toArray), #[]⟩
noncomputable abbrev o54 : Obj := ⟨(.type "getset_descriptor"), none, (.fields [(hs "__weakref__" 242), (hr 52), (.builtin "ExceptionGroup.__weakref__"), .none].toArray), #[]⟩
noncomputable abbrev o64 : Obj := hT [.none]
noncomputable abbrev o65 : Obj := hT []
noncomputable abbrev o67 : Obj := hT [(hs "self" 262), (hs "rule" 263), (hs "look_back" 264)]
noncomputable abbrev o68 : Obj := hT []
noncomputable abbrev o70 : Obj := hC [(hs "__init__" 259), (hs "Breaker.__init__" 260), (hs "/claim/cut.py" 261), (hi 20 0), (hi 3 0), (hi 0 0), (hi 0 0), (hi 3 0), (hr 65), (.bool true), (hi 181 0), (hr 66), .none, (hr 67), (hr 68), (hr 69), (hi 265 0), (hi 20 0), (hs "/claim/cut.py" 266)]
noncomputable abbrev o71 : Obj := hF 4 0 rfl "Breaker.__init__" 70 (hs "unicore.boundaries" 194) (hr 64)
noncomputable abbrev o72 : Obj := hT []
noncomputable abbrev o74 : Obj := hT [(hs "self" 271), (hs "text" 272), (hs "at" 273)]
noncomputable abbrev o75 : Obj := hT []
noncomputable abbrev o77 : Obj := hC [(hs "is_boundary" 268), (hs "Breaker.is_boundary" 269), (hs "/claim/cut.py" 270), (hi 24 0), (hi 3 0), (hi 0 0), (hi 0 0), (hi 3 0), (hr 72), (.bool true), (hi 181 0), (hr 73), .none, (hr 74), (hr 75), (hr 76), (hi 274 0), (hi 24 0), (hs "/claim/cut.py" 275)]
noncomputable abbrev o78 : Obj := hF 4 1 rfl "Breaker.is_boundary" 77 (hs "unicore.boundaries" 194) .none
noncomputable abbrev o79 : Obj := hT []
noncomputable abbrev o82 : Obj := hC [(hs "boundaries" 277), (hs "Breaker.boundaries" 278), (hs "/claim/cut.py" 279), (hi 29 0), (hi 2 0), (hi 0 0), (hi 0 0), (hi 3 0), (hr 79), (.bool true), (hi 181 0), (hr 80), .none, .none, .none, (hr 81), (hi 280 0), (hi 29 0), (hs "/claim/cut.py" 281)]
noncomputable abbrev o83 : Obj := hF 4 2 rfl "Breaker.boundaries" 82 (hs "unicore.boundaries" 194) .none
noncomputable abbrev o84 : Obj := hT []
noncomputable abbrev o87 : Obj := hC [(hs "segments" 283), (hs "Breaker.segments" 284), (hs "/claim/cut.py" 285), (hi 32 0), (hi 2 0), (hi 0 0), (hi 0 0), (hi 3 0), (hr 84), (.bool true), (hi 181 0), (hr 85), .none, .none, .none, (hr 86), (hi 286 0), (hi 32 0), (hs "/claim/cut.py" 287)]
noncomputable abbrev o88 : Obj := hF 4 3 rfl "Breaker.segments" 87 (hs "unicore.boundaries" 194) .none
noncomputable abbrev o89 : Obj := hT []
noncomputable abbrev o91 : Obj := hT [(hs "self" 292), (hs "text" 293), (hs "at" 294), (hs "place" 295)]
noncomputable abbrev o92 : Obj := hT []
noncomputable abbrev o94 : Obj := hC [(hs "next_from" 289), (hs "Breaker.next_from" 290), (hs "/claim/cut.py" 291), (hi 36 0), (hi 3 0), (hi 0 0), (hi 0 0), (hi 3 0), (hr 89), (.bool true), (hi 181 0), (hr 90), .none, (hr 91), (hr 92), (hr 93), (hi 296 0), (hi 36 0), (hs "/claim/cut.py" 297)]
noncomputable abbrev o95 : Obj := hF 4 4 rfl "Breaker.next_from" 94 (hs "unicore.boundaries" 194) .none
noncomputable abbrev o96 : Obj := hT []
noncomputable abbrev o98 : Obj := hT [(hs "self" 302), (hs "text" 303), (hs "at" 304), (hs "place" 305)]
noncomputable abbrev o99 : Obj := hT []
noncomputable abbrev o101 : Obj := hC [(hs "previous_from" 299), (hs "Breaker.previous_from" 300), (hs "/claim/cut.py" 301), (hi 42 0), (hi 3 0), (hi 0 0), (hi 0 0), (hi 3 0), (hr 96), (.bool true), (hi 181 0), (hr 97), .none, (hr 98), (hr 99), (hr 100), (hi 306 0), (hi 42 0), (hs "/claim/cut.py" 307)]
noncomputable abbrev o102 : Obj := hF 4 5 rfl "Breaker.previous_from" 101 (hs "unicore.boundaries" 194) .none
noncomputable abbrev o103 : Obj := hT [(hs "look_back" 309), (hs "rule" 310)]
noncomputable abbrev o104 (P : Params) : Obj := ⟨(.type "dict"), none, (.dict #[he P "__module__" 254 (hs "unicore.boundaries" 194), he P "__firstlineno__" 258 (hi 18 257), he P "__init__" 267 (hr 71), he P "is_boundary" 276 (hr 78), he P "boundaries" 282 (hr 83), he P "segments" 288 (hr 88), he P "next_from" 298 (hr 95), he P "previous_from" 308 (hr 102), he P "__static_attributes__" 311 (hr 103), he P "__dict__" 313 (hr 106), he P "__weakref__" 315 (hr 107), he P "__doc__" 316 .none] 4), #[]⟩
noncomputable abbrev o105 : Obj := ⟨(.type "type"), none, (.cls { name := .ofString "Breaker", bases := [(.type "object")], mro := [(hr 105), (.type "object")], ns := 104, qualname := .ofString "Breaker" }), #[none, none, some (hs "Breaker" 247), some (hs "Breaker" 255), some (.builtin "object.__new__"), some (.bool true)]⟩
noncomputable abbrev o106 : Obj := ⟨(.type "getset_descriptor"), none, (.fields [(hs "__dict__" 312), (hr 105), (.builtin "function.__dict__"), (.builtin "function.__dict__#set")].toArray), #[]⟩
noncomputable abbrev o107 : Obj := ⟨(.type "getset_descriptor"), none, (.fields [(hs "__weakref__" 314), (hr 105), (.builtin "ExceptionGroup.__weakref__"), .none].toArray), #[]⟩
noncomputable abbrev o110 : Obj := hT []
noncomputable abbrev o112 : Obj := hT [(hs "code" 335)]
noncomputable abbrev o113 : Obj := hT []
noncomputable abbrev o115 : Obj := hC [(hs "is_hangul_syllable" 332), (hs "is_hangul_syllable" 333), (hs "/claim/cut.py" 334), (hi 55 0), (hi 1 0), (hi 0 0), (hi 0 0), (hi 3 0), (hr 110), (.bool true), (hi 181 0), (hr 111), .none, (hr 112), (hr 113), (hr 114), (hi 336 0), (hi 55 0), (hs "/claim/cut.py" 337)]
noncomputable abbrev o116 : Obj := hF 11 0 rfl "is_hangul_syllable" 115 (hs "unicore.hangul" 319) .none
noncomputable abbrev o117 : Obj := hT []
noncomputable abbrev o119 : Obj := hT [(hs "code" 342)]
noncomputable abbrev o120 : Obj := hT []
noncomputable abbrev o122 : Obj := hC [(hs "hangul_kind" 339), (hs "hangul_kind" 340), (hs "/claim/cut.py" 341), (hi 57 0), (hi 1 0), (hi 0 0), (hi 0 0), (hi 3 0), (hr 117), (.bool true), (hi 181 0), (hr 118), .none, (hr 119), (hr 120), (hr 121), (hi 343 0), (hi 57 0), (hs "/claim/cut.py" 344)]
noncomputable abbrev o123 : Obj := hF 12 0 rfl "hangul_kind" 122 (hs "unicore.hangul" 319) .none
noncomputable abbrev o124 : Obj := hT [(hs "CR" 348), (hs "LF" 349), (hs "Control" 350)]
noncomputable abbrev o125 : Obj := hT [(hs "Extend" 352), (hs "ZWJ" 353)]
noncomputable abbrev o126 : Obj := hT [(hs "Extend" 355), (hs "Linker" 356)]
noncomputable abbrev o127 : Obj := hT []
noncomputable abbrev o129 : Obj := hT [(hs "code" 361), (hs "data" 362), (hs "kind" 363), (hs "told" 364)]
noncomputable abbrev o130 : Obj := hT []
noncomputable abbrev o132 : Obj := hC [(hs "cluster_kind" 358), (hs "cluster_kind" 359), (hs "/claim/cut.py" 360), (hi 71 0), (hi 2 0), (hi 0 0), (hi 0 0), (hi 3 0), (hr 127), (.bool true), (hi 181 0), (hr 128), .none, (hr 129), (hr 130), (hr 131), (hi 365 0), (hi 71 0), (hs "/claim/cut.py" 366)]
noncomputable abbrev o133 : Obj := hF 17 0 rfl "cluster_kind" 132 (hs "unicore.clusters" 346) .none
noncomputable abbrev o134 : Obj := hT []
noncomputable abbrev o136 : Obj := hT [(hs "left" 371), (hs "right" 372)]
noncomputable abbrev o137 : Obj := hT []
noncomputable abbrev o139 : Obj := hC [(hs "cluster_hangul_joins" 368), (hs "cluster_hangul_joins" 369), (hs "/claim/cut.py" 370), (hi 77 0), (hi 2 0), (hi 0 0), (hi 0 0), (hi 3 0), (hr 134), (.bool true), (hi 181 0), (hr 135), .none, (hr 136), (hr 137), (hr 138), (hi 373 0), (hi 77 0), (hs "/claim/cut.py" 374)]
noncomputable abbrev o140 : Obj := hF 18 0 rfl "cluster_hangul_joins" 139 (hs "unicore.clusters" 346) .none
noncomputable abbrev o141 : Obj := hT []
noncomputable abbrev o143 : Obj := hT [(hs "left" 379), (hs "right" 380), (hs "is_legacy" 381)]
noncomputable abbrev o144 : Obj := hT []
noncomputable abbrev o146 : Obj := hC [(hs "cluster_pair" 376), (hs "cluster_pair" 377), (hs "/claim/cut.py" 378), (hi 83 0), (hi 3 0), (hi 0 0), (hi 0 0), (hi 3 0), (hr 141), (.bool true), (hi 181 0), (hr 142), .none, (hr 143), (hr 144), (hr 145), (hi 382 0), (hi 83 0), (hs "/claim/cut.py" 383)]
noncomputable abbrev o147 : Obj := hF 19 0 rfl "cluster_pair" 146 (hs "unicore.clusters" 346) .none
noncomputable abbrev o148 : Obj := hT []
noncomputable abbrev o150 : Obj := hT [(hs "text" 388), (hs "at" 389), (hs "data" 390), (hs "has_linker" 391), (hs "back" 392), (hs "word" 393)]
noncomputable abbrev o151 : Obj := hT []
noncomputable abbrev o153 : Obj := hC [(hs "cluster_is_conjunct" 385), (hs "cluster_is_conjunct" 386), (hs "/claim/cut.py" 387), (hi 93 0), (hi 3 0), (hi 0 0), (hi 0 0), (hi 3 0), (hr 148), (.bool true), (hi 181 0), (hr 149), .none, (hr 150), (hr 151), (hr 152), (hi 394 0), (hi 93 0), (hs "/claim/cut.py" 395)]
noncomputable abbrev o154 : Obj := hF 20 0 rfl "cluster_is_conjunct" 153 (hs "unicore.clusters" 346) .none
noncomputable abbrev o155 : Obj := hT []
noncomputable abbrev o157 : Obj := hT [(hs "text" 400), (hs "at" 401), (hs "data" 402), (hs "back" 403)]
noncomputable abbrev o158 : Obj := hT []
noncomputable abbrev o160 : Obj := hC [(hs "cluster_is_joined_picture" 397), (hs "cluster_is_joined_picture" 398), (hs "/claim/cut.py" 399), (hi 107 0), (hi 3 0), (hi 0 0), (hi 0 0), (hi 3 0), (hr 155), (.bool true), (hi 181 0), (hr 156), .none, (hr 157), (hr 158), (hr 159), (hi 404 0), (hi 107 0), (hs "/claim/cut.py" 405)]
noncomputable abbrev o161 : Obj := hF 21 0 rfl "cluster_is_joined_picture" 160 (hs "unicore.clusters" 346) .none
noncomputable abbrev o162 : Obj := hT []
noncomputable abbrev o164 : Obj := hT [(hs "text" 410), (hs "at" 411), (hs "data" 412), (hs "many" 413)]
noncomputable abbrev o165 : Obj := hT []
noncomputable abbrev o167 : Obj := hC [(hs "cluster_flags_before" 407), (hs "cluster_flags_before" 408), (hs "/claim/cut.py" 409), (hi 114 0), (hi 3 0), (hi 0 0), (hi 0 0), (hi 3 0), (hr 162), (.bool true), (hi 181 0), (hr 163), .none, (hr 164), (hr 165), (hr 166), (hi 414 0), (hi 114 0), (hs "/claim/cut.py" 415)]
noncomputable abbrev o168 : Obj := hF 22 0 rfl "cluster_flags_before" 167 (hs "unicore.clusters" 346) .none
noncomputable abbrev o169 : Obj := hT []
noncomputable abbrev o171 : Obj := hT [(hs "text" 420), (hs "at" 421), (hs "data" 422)]
noncomputable abbrev o172 : Obj := hT []
noncomputable abbrev o174 : Obj := hC [(hs "cluster_is_flag" 417), (hs "cluster_is_flag" 418), (hs "/claim/cut.py" 419), (hi 119 0), (hi 3 0), (hi 0 0), (hi 0 0), (hi 3 0), (hr 169), (.bool true), (hi 181 0), (hr 170), .none, (hr 171), (hr 172), (hr 173), (hi 423 0), (hi 119 0), (hs "/claim/cut.py" 424)]
noncomputable abbrev o175 : Obj := hF 23 0 rfl "cluster_is_flag" 174 (hs "unicore.clusters" 346) .none
noncomputable abbrev o176 : Obj := hT [(.bool false)]
noncomputable abbrev o177 : Obj := hT []
noncomputable abbrev o179 : Obj := hT [(hs "text" 429), (hs "at" 430), (hs "data" 431), (hs "is_legacy" 432), (hs "told" 433)]
noncomputable abbrev o180 : Obj := hT []
noncomputable abbrev o182 : Obj := hC [(hs "cluster_break" 426), (hs "cluster_break" 427), (hs "/claim/cut.py" 428), (hi 123 0), (hi 4 0), (hi 0 0), (hi 0 0), (hi 3 0), (hr 177), (.bool true), (hi 181 0), (hr 178), .none, (hr 179), (hr 180), (hr 181), (hi 434 0), (hi 123 0), (hs "/claim/cut.py" 435)]
noncomputable abbrev o183 : Obj := hF 24 0 rfl "cluster_break" 182 (hs "unicore.clusters" 346) (hr 176)
noncomputable abbrev o184 : Obj := hT []
noncomputable abbrev o186 : Obj := hT [(hs "left" 440), (hs "right" 441), (hs "data" 442), (hs "kind" 443), (hs "told" 444)]
noncomputable abbrev o187 : Obj := hT []
noncomputable abbrev o189 : Obj := hC [(hs "cluster_is_sure" 437), (hs "cluster_is_sure" 438), (hs "/claim/cut.py" 439), (hi 132 0), (hi 3 0), (hi 0 0), (hi 0 0), (hi 3 0), (hr 184), (.bool true), (hi 181 0), (hr 185), .none, (hr 186), (hr 187), (hr 188), (hi 445 0), (hi 132 0), (hs "/claim/cut.py" 446)]
noncomputable abbrev o190 : Obj := hF 25 0 rfl "cluster_is_sure" 189 (hs "unicore.clusters" 346) .none
noncomputable abbrev o191 : Obj := hT []
noncomputable abbrev o193 : Obj := hT [(hs "firsts" 455), (hs "number" 456), (hs "low" 457), (hs "high" 458), (hs "middle" 459)]
noncomputable abbrev o194 : Obj := hT []
noncomputable abbrev o196 : Obj := hC [(hs "place_by_half" 452), (hs "place_by_half" 453), (hs "/claim/cut.py" 454), (hi 142 0), (hi 2 0), (hi 0 0), (hi 0 0), (hi 3 0), (hr 191), (.bool true), (hi 181 0), (hr 192), .none, (hr 193), (hr 194), (hr 195), (hi 460 0), (hi 142 0), (hs "/claim/cut.py" 461)]
noncomputable abbrev o197 : Obj := hF 28 0 rfl "place_by_half" 196 (hs "unicore.base" 448) .none
noncomputable abbrev o198 : Obj := hT []
noncomputable abbrev o200 : Obj := hT [(hs "one" 468), (hs "other" 469)]
noncomputable abbrev o201 : Obj := hT []
noncomputable abbrev o203 : Obj := hC [(hs "range_are_like" 465), (hs "range_are_like" 466), (hs "/claim/cut.py" 467), (hi 153 0), (hi 2 0), (hi 0 0), (hi 0 0), (hi 3 0), (hr 198), (.bool true), (hi 181 0), (hr 199), .none, (hr 200), (hr 201), (hr 202), (hi 470 0), (hi 153 0), (hs "/claim/cut.py" 471)]
noncomputable abbrev o204 : Obj := hF 30 0 rfl "range_are_like" 203 (hs "unicore.ranges" 463) .none
noncomputable abbrev o212 : Obj := hT []
noncomputable abbrev o214 : Obj := hT [(hs "self" 488), (hs "default" 489)]
noncomputable abbrev o215 : Obj := hT []
noncomputable abbrev o217 : Obj := hC [(hs "__init__" 485), (hs "RangeMap.__init__" 486), (hs "/claim/cut.py" 487), (hi 157 0), (hi 2 0), (hi 0 0), (hi 0 0), (hi 3 0), (hr 212), (.bool true), (hi 181 0), (hr 213), .none, (hr 214), (hr 215), (hr 216), (hi 490 0), (hi 157 0), (hs "/claim/cut.py" 491)]
noncomputable abbrev o218 : Obj := hF 31 0 rfl "RangeMap.__init__" 217 (hs "unicore.ranges" 463) .none
noncomputable abbrev o219 : Obj := hT []
noncomputable abbrev o221 : Obj := hT [(hs "self" 496), (hs "code" 497)]
noncomputable abbrev o222 : Obj := hT []
noncomputable abbrev o224 : Obj := hC [(hs "get" 493), (hs "RangeMap.get" 494), (hs "/claim/cut.py" 495), (hi 162 0), (hi 2 0), (hi 0 0), (hi 0 0), (hi 3 0), (hr 219), (.bool true), (hi 181 0), (hr 220), .none, (hr 221), (hr 222), (hr 223), (hi 498 0), (hi 162 0), (hs "/claim/cut.py" 499)]
noncomputable abbrev o225 : Obj := hF 31 1 rfl "RangeMap.get" 224 (hs "unicore.ranges" 463) .none
noncomputable abbrev o226 : Obj := hT []
noncomputable abbrev o228 : Obj := hT [(hs "self" 504), (hs "first" 505), (hs "last" 506), (hs "value" 507), (hs "low" 508), (hs "high" 509), (hs "behind" 510), (hs "starts" 511), (hs "values" 512)]
noncomputable abbrev o229 : Obj := hT []
noncomputable abbrev o231 : Obj := hC [(hs "put" 501), (hs "RangeMap.put" 502), (hs "/claim/cut.py" 503), (hi 165 0), (hi 4 0), (hi 0 0), (hi 0 0), (hi 3 0), (hr 226), (.bool true), (hi 181 0), (hr 227), .none, (hr 228), (hr 229), (hr 230), (hi 513 0), (hi 165 0), (hs "/claim/cut.py" 514)]
noncomputable abbrev o232 : Obj := hF 31 2 rfl "RangeMap.put" 231 (hs "unicore.ranges" 463) .none
noncomputable abbrev o233 : Obj := hT []
noncomputable abbrev o235 : Obj := hT [(hs "self" 519)]
noncomputable abbrev o236 : Obj := hT []
noncomputable abbrev o238 : Obj := hC [(hs "ranges" 516), (hs "RangeMap.ranges" 517), (hs "/claim/cut.py" 518), (hi 180 0), (hi 1 0), (hi 0 0), (hi 0 0), (hi 3 0), (hr 233), (.bool true), (hi 181 0), (hr 234), .none, (hr 235), (hr 236), (hr 237), (hi 520 0), (hi 180 0), (hs "/claim/cut.py" 521)]
noncomputable abbrev o239 : Obj := hF 31 3 rfl "RangeMap.ranges" 238 (hs "unicore.ranges" 463) .none
noncomputable abbrev o240 : Obj := hT []
noncomputable abbrev o242 : Obj := hT [(hs "self" 526), (hs "value" 527)]
noncomputable abbrev o243 : Obj := hT []
noncomputable abbrev o245 : Obj := hC [(hs "set_of" 523), (hs "RangeMap.set_of" 524), (hs "/claim/cut.py" 525), (hi 183 0), (hi 2 0), (hi 0 0), (hi 0 0), (hi 3 0), (hr 240), (.bool true), (hi 181 0), (hr 241), .none, (hr 242), (hr 243), (hr 244), (hi 528 0), (hi 183 0), (hs "/claim/cut.py" 529)]
noncomputable abbrev o246 : Obj := hF 31 4 rfl "RangeMap.set_of" 245 (hs "unicore.ranges" 463) .none
noncomputable abbrev o247 : Obj := hT [(hs "default" 531), (hs "starts" 532), (hs "values" 533)]
noncomputable abbrev o248 (P : Params) : Obj := ⟨(.type "dict"), none, (.dict #[he P "__module__" 480 (hs "unicore.ranges" 463), he P "__firstlineno__" 484 (hi 155 483), he P "__init__" 492 (hr 218), he P "get" 500 (hr 225), he P "put" 515 (hr 232), he P "ranges" 522 (hr 239), he P "set_of" 530 (hr 246), he P "__static_attributes__" 534 (hr 247), he P "__dict__" 536 (hr 250), he P "__weakref__" 538 (hr 251), he P "__doc__" 539 .none] 4), #[]⟩
noncomputable abbrev o249 : Obj := ⟨(.type "type"), none, (.cls { name := .ofString "RangeMap", bases := [(.type "object")], mro := [(hr 249), (.type "object")], ns := 248, qualname := .ofString "RangeMap" }), #[none, none, some (hs "RangeMap" 473), some (hs "RangeMap" 481), some (.builtin "object.__new__"), some (.bool true)]⟩
noncomputable abbrev o250 : Obj := ⟨(.type "getset_descriptor"), none, (.fields [(hs "__dict__" 535), (hr 249), (.builtin "function.__dict__"), (.builtin "function.__dict__#set")].toArray), #[]⟩
noncomputable abbrev o251 : Obj := ⟨(.type "getset_descriptor"), none, (.fields [(hs "__weakref__" 537), (hr 249), (.builtin "ExceptionGroup.__weakref__"), .none].toArray), #[]⟩
noncomputable abbrev o254 : Obj := hT []
noncomputable abbrev o256 : Obj := hT [(hs "found" 547), (hs "name" 548)]
noncomputable abbrev o257 : Obj := hT []
noncomputable abbrev o259 : Obj := hC [(hs "data_defaults" 544), (hs "data_defaults" 545), (hs "/claim/cut.py" 546), (hi 186 0), (hi 0 0), (hi 0 0), (hi 0 0), (hi 3 0), (hr 254), (.bool true), (hi 181 0), (hr 255), .none, (hr 256), (hr 257), (hr 258), (hi 549 0), (hi 186 0), (hs "/claim/cut.py" 550)]
noncomputable abbrev o260 : Obj := hF 33 0 rfl "data_defaults" 259 (hs "unicore.data" 542) .none
noncomputable abbrev o268 : Obj := hT []
noncomputable abbrev o270 : Obj := hT [(hs "self" 567)]
noncomputable abbrev o271 : Obj := hT []
noncomputable abbrev o273 : Obj := hC [(hs "__init__" 564), (hs "Data.__init__" 565), (hs "/claim/cut.py" 566), (hi 200 0), (hi 1 0), (hi 0 0), (hi 0 0), (hi 3 0), (hr 268), (.bool true), (hi 181 0), (hr 269), .none, (hr 270), (hr 271), (hr 272), (hi 568 0), (hi 200 0), (hs "/claim/cut.py" 569)]
noncomputable abbrev o274 : Obj := hF 34 0 rfl "Data.__init__" 273 (hs "unicore.data" 542) .none
noncomputable abbrev o275 : Obj := hT []
noncomputable abbrev o277 : Obj := hT [(hs "self" 574), (hs "name" 575), (hs "first" 576), (hs "last" 577), (hs "value" 578)]
noncomputable abbrev o278 : Obj := hT []
noncomputable abbrev o280 : Obj := hC [(hs "put" 571), (hs "Data.put" 572), (hs "/claim/cut.py" 573), (hi 206 0), (hi 5 0), (hi 0 0), (hi 0 0), (hi 3 0), (hr 275), (.bool true), (hi 181 0), (hr 276), .none, (hr 277), (hr 278), (hr 279), (hi 579 0), (hi 206 0), (hs "/claim/cut.py" 580)]
noncomputable abbrev o281 : Obj := hF 34 1 rfl "Data.put" 280 (hs "unicore.data" 542) .none
noncomputable abbrev o282 : Obj := hT []
noncomputable abbrev o284 : Obj := hT [(hs "self" 585), (hs "name" 586), (hs "code" 587)]
noncomputable abbrev o285 : Obj := hT []
noncomputable abbrev o287 : Obj := hC [(hs "get" 582), (hs "Data.get" 583), (hs "/claim/cut.py" 584), (hi 209 0), (hi 3 0), (hi 0 0), (hi 0 0), (hi 3 0), (hr 282), (.bool true), (hi 181 0), (hr 283), .none, (hr 284), (hr 285), (hr 286), (hi 588 0), (hi 209 0), (hs "/claim/cut.py" 589)]
noncomputable abbrev o288 : Obj := hF 34 2 rfl "Data.get" 287 (hs "unicore.data" 542) .none
noncomputable abbrev o289 : Obj := hT []
noncomputable abbrev o291 : Obj := hT [(hs "self" 594), (hs "name" 595)]
noncomputable abbrev o292 : Obj := hT []
noncomputable abbrev o294 : Obj := hC [(hs "map_of" 591), (hs "Data.map_of" 592), (hs "/claim/cut.py" 593), (hi 214 0), (hi 2 0), (hi 0 0), (hi 0 0), (hi 3 0), (hr 289), (.bool true), (hi 181 0), (hr 290), .none, (hr 291), (hr 292), (hr 293), (hi 596 0), (hi 214 0), (hs "/claim/cut.py" 597)]
noncomputable abbrev o295 : Obj := hF 34 3 rfl "Data.map_of" 294 (hs "unicore.data" 542) .none
noncomputable abbrev o296 : Obj := hT [(hs "defaults" 599), (hs "maps" 600), (hs "properties" 601), (hs "words" 602)]
noncomputable abbrev o297 (P : Params) : Obj := ⟨(.type "dict"), none, (.dict #[he P "__module__" 559 (hs "unicore.data" 542), he P "__firstlineno__" 563 (hi 198 562), he P "__init__" 570 (hr 274), he P "put" 581 (hr 281), he P "get" 590 (hr 288), he P "map_of" 598 (hr 295), he P "__static_attributes__" 603 (hr 296), he P "__dict__" 605 (hr 299), he P "__weakref__" 607 (hr 300), he P "__doc__" 608 .none] 4), #[]⟩
noncomputable abbrev o298 : Obj := ⟨(.type "type"), none, (.cls { name := .ofString "Data", bases := [(.type "object")], mro := [(hr 298), (.type "object")], ns := 297, qualname := .ofString "Data" }), #[none, none, some (hs "Data" 552), some (hs "Data" 560), some (.builtin "object.__new__"), some (.bool true)]⟩
noncomputable abbrev o299 : Obj := ⟨(.type "getset_descriptor"), none, (.fields [(hs "__dict__" 604), (hr 298), (.builtin "function.__dict__"), (.builtin "function.__dict__#set")].toArray), #[]⟩
noncomputable abbrev o300 : Obj := ⟨(.type "getset_descriptor"), none, (.fields [(hs "__weakref__" 606), (hr 298), (.builtin "ExceptionGroup.__weakref__"), .none].toArray), #[]⟩
noncomputable abbrev o303 : Obj := hT [(hs "Sep" 613), (hs "CR" 614), (hs "LF" 615)]
noncomputable abbrev o304 : Obj := hT [(hs "Extend" 617), (hs "Format" 618)]
noncomputable abbrev o305 : Obj := hT [(hs "ATerm" 620), (hs "STerm" 621)]
noncomputable abbrev o306 : Obj := hT [(hs "Upper" 623), (hs "Lower" 624)]
noncomputable abbrev o307 : Obj := hT [(hs "OLetter" 626), (hs "Upper" 627), (hs "Lower" 628), (hs "Sep" 629), (hs "CR" 630), (hs "LF" 631), (hs "ATerm" 632), (hs "STerm" 633)]
noncomputable abbrev o308 : Obj := hT [(hs "Extend" 635), (hs "Format" 636), (hs "SContinue" 637), (hs "ATerm" 638), (hs "STerm" 639), (hs "Sp" 640), (hs "Sep" 641), (hs "CR" 642), (hs "LF" 643)]
noncomputable abbrev o309 : Obj := hT [(hs "ATerm" 645), (hs "STerm" 646), (hs "Close" 647), (hs "Sp" 648)]
noncomputable abbrev o310 : Obj := hT []
noncomputable abbrev o312 : Obj := hT [(hs "text" 653), (hs "at" 654), (hs "data" 655)]
noncomputable abbrev o313 : Obj := hT []
noncomputable abbrev o315 : Obj := hC [(hs "sentence_kind" 650), (hs "sentence_kind" 651), (hs "/claim/cut.py" 652), (hi 226 0), (hi 3 0), (hi 0 0), (hi 0 0), (hi 3 0), (hr 310), (.bool true), (hi 181 0), (hr 311), .none, (hr 312), (hr 313), (hr 314), (hi 656 0), (hi 226 0), (hs "/claim/cut.py" 657)]
noncomputable abbrev o316 : Obj := hF 43 0 rfl "sentence_kind" 315 (hs "unicore.sentences" 611) .none
noncomputable abbrev o317 : Obj := hT []
noncomputable abbrev o319 : Obj := hT [(hs "text" 662), (hs "at" 663), (hs "data" 664)]
noncomputable abbrev o320 : Obj := hT []
noncomputable abbrev o322 : Obj := hC [(hs "sentence_hangs" 659), (hs "sentence_hangs" 660), (hs "/claim/cut.py" 661), (hi 228 0), (hi 3 0), (hi 0 0), (hi 0 0), (hi 3 0), (hr 317), (.bool true), (hi 181 0), (hr 318), .none, (hr 319), (hr 320), (hr 321), (hi 665 0), (hi 228 0), (hs "/claim/cut.py" 666)]
noncomputable abbrev o323 : Obj := hF 44 0 rfl "sentence_hangs" 322 (hs "unicore.sentences" 611) .none
noncomputable abbrev o324 : Obj := hT []
noncomputable abbrev o326 : Obj := hT [(hs "text" 671), (hs "at" 672), (hs "data" 673)]
noncomputable abbrev o327 : Obj := hT []
noncomputable abbrev o329 : Obj := hC [(hs "sentence_base" 668), (hs "sentence_base" 669), (hs "/claim/cut.py" 670), (hi 232 0), (hi 3 0), (hi 0 0), (hi 0 0), (hi 3 0), (hr 324), (.bool true), (hi 181 0), (hr 325), .none, (hr 326), (hr 327), (hr 328), (hi 674 0), (hi 232 0), (hs "/claim/cut.py" 675)]
noncomputable abbrev o330 : Obj := hF 45 0 rfl "sentence_base" 329 (hs "unicore.sentences" 611) .none
noncomputable abbrev o331 : Obj := hT []
noncomputable abbrev o333 : Obj := hT [(hs "text" 680), (hs "at" 681), (hs "data" 682), (hs "there" 683), (hs "is_spaced" 684), (hs "kind" 685)]
noncomputable abbrev o334 : Obj := hT []
noncomputable abbrev o336 : Obj := hC [(hs "sentence_tail" 677), (hs "sentence_tail" 678), (hs "/claim/cut.py" 679), (hi 237 0), (hi 3 0), (hi 0 0), (hi 0 0), (hi 3 0), (hr 331), (.bool true), (hi 181 0), (hr 332), .none, (hr 333), (hr 334), (hr 335), (hi 686 0), (hi 237 0), (hs "/claim/cut.py" 687)]
noncomputable abbrev o337 : Obj := hF 46 0 rfl "sentence_tail" 336 (hs "unicore.sentences" 611) .none
noncomputable abbrev o338 : Obj := hT []
noncomputable abbrev o340 : Obj := hT [(hs "text" 692), (hs "at" 693), (hs "data" 694), (hs "kind" 695)]
noncomputable abbrev o341 : Obj := hT []
noncomputable abbrev o343 : Obj := hC [(hs "sentence_goes_on" 689), (hs "sentence_goes_on" 690), (hs "/claim/cut.py" 691), (hi 246 0), (hi 3 0), (hi 0 0), (hi 0 0), (hi 3 0), (hr 338), (.bool true), (hi 181 0), (hr 339), .none, (hr 340), (hr 341), (hr 342), (hi 696 0), (hi 246 0), (hs "/claim/cut.py" 697)]
noncomputable abbrev o344 : Obj := hF 47 0 rfl "sentence_goes_on" 343 (hs "unicore.sentences" 611) .none
noncomputable abbrev o345 : Obj := hT []
noncomputable abbrev o347 : Obj := hT [(hs "text" 702), (hs "at" 703), (hs "data" 704), (hs "there" 705), (hs "kind" 706)]
noncomputable abbrev o348 : Obj := hT []
noncomputable abbrev o350 : Obj := hC [(hs "sentence_is_abbreviated" 699), (hs "sentence_is_abbreviated" 700), (hs "/claim/cut.py" 701), (hi 253 0), (hi 3 0), (hi 0 0), (hi 0 0), (hi 3 0), (hr 345), (.bool true), (hi 181 0), (hr 346), .none, (hr 347), (hr 348), (hr 349), (hi 707 0), (hi 253 0), (hs "/claim/cut.py" 708)]
noncomputable abbrev o351 : Obj := hF 48 0 rfl "sentence_is_abbreviated" 350 (hs "unicore.sentences" 611) .none
noncomputable abbrev o352 : Obj := hT []
noncomputable abbrev o354 : Obj := hT [(hs "text" 713), (hs "at" 714), (hs "data" 715), (hs "last" 716), (hs "kind" 717), (hs "before" 718), (hs "term" 719), (hs "place" 720), (hs "is_spaced" 721)]
noncomputable abbrev o355 : Obj := hT []
noncomputable abbrev o357 : Obj := hC [(hs "sentence_break" 710), (hs "sentence_break" 711), (hs "/claim/cut.py" 712), (hi 261 0), (hi 3 0), (hi 0 0), (hi 0 0), (hi 3 0), (hr 352), (.bool true), (hi 181 0), (hr 353), .none, (hr 354), (hr 355), (hr 356), (hi 722 0), (hi 261 0), (hs "/claim/cut.py" 723)]
noncomputable abbrev o358 : Obj := hF 49 0 rfl "sentence_break" 357 (hs "unicore.sentences" 611) .none
noncomputable abbrev o359 : Obj := hT [(hs "CR" 727), (hs "LF" 728), (hs "Newline" 729)]
noncomputable abbrev o360 : Obj := hT [(hs "Extend" 731), (hs "Format" 732), (hs "ZWJ" 733)]
noncomputable abbrev o361 : Obj := hT [(hs "ALetter" 735), (hs "Hebrew_Letter" 736)]
noncomputable abbrev o362 : Obj := hT [(hs "ALetter" 738), (hs "Hebrew_Letter" 739), (hs "Numeric" 740)]
noncomputable abbrev o363 : Obj := hT [(hs "ALetter" 742), (hs "Hebrew_Letter" 743), (hs "Numeric" 744), (hs "Katakana" 745)]
noncomputable abbrev o364 : Obj := hT [(hs "MidLetter" 747), (hs "MidNumLet" 748), (hs "Single_Quote" 749)]
noncomputable abbrev o365 : Obj := hT [(hs "MidNum" 751), (hs "MidNumLet" 752), (hs "Single_Quote" 753)]
noncomputable abbrev o373 : Obj := hT []
noncomputable abbrev o375 : Obj := hT [(hs "self" 770), (hs "text" 771), (hs "data" 772)]
noncomputable abbrev o376 : Obj := hT []
noncomputable abbrev o378 : Obj := hC [(hs "__init__" 767), (hs "WordPlaces.__init__" 768), (hs "/claim/cut.py" 769), (hi 284 0), (hi 3 0), (hi 0 0), (hi 0 0), (hi 3 0), (hr 373), (.bool true), (hi 181 0), (hr 374), .none, (hr 375), (hr 376), (hr 377), (hi 773 0), (hi 284 0), (hs "/claim/cut.py" 774)]
noncomputable abbrev o379 : Obj := hF 58 0 rfl "WordPlaces.__init__" 378 (hs "unicore.words" 725) .none
noncomputable abbrev o380 : Obj := hT []
noncomputable abbrev o382 : Obj := hT [(hs "self" 779), (hs "index" 780)]
noncomputable abbrev o383 : Obj := hT []
noncomputable abbrev o385 : Obj := hC [(hs "sort" 776), (hs "WordPlaces.sort" 777), (hs "/claim/cut.py" 778), (hi 288 0), (hi 2 0), (hi 0 0), (hi 0 0), (hi 3 0), (hr 380), (.bool true), (hi 181 0), (hr 381), .none, (hr 382), (hr 383), (hr 384), (hi 781 0), (hi 288 0), (hs "/claim/cut.py" 782)]
noncomputable abbrev o386 : Obj := hF 58 1 rfl "WordPlaces.sort" 385 (hs "unicore.words" 725) .none
noncomputable abbrev o387 : Obj := hT []
noncomputable abbrev o389 : Obj := hT [(hs "self" 787), (hs "at" 788), (hs "left" 789)]
noncomputable abbrev o390 : Obj := hT []
noncomputable abbrev o392 : Obj := hC [(hs "left" 784), (hs "WordPlaces.left" 785), (hs "/claim/cut.py" 786), (hi 291 0), (hi 2 0), (hi 0 0), (hi 0 0), (hi 3 0), (hr 387), (.bool true), (hi 181 0), (hr 388), .none, (hr 389), (hr 390), (hr 391), (hi 790 0), (hi 291 0), (hs "/claim/cut.py" 791)]
noncomputable abbrev o393 : Obj := hF 58 2 rfl "WordPlaces.left" 392 (hs "unicore.words" 725) .none
noncomputable abbrev o394 : Obj := hT []
noncomputable abbrev o396 : Obj := hT [(hs "self" 796), (hs "at" 797)]
noncomputable abbrev o397 : Obj := hT []
noncomputable abbrev o399 : Obj := hC [(hs "right" 793), (hs "WordPlaces.right" 794), (hs "/claim/cut.py" 795), (hi 299 0), (hi 2 0), (hi 0 0), (hi 0 0), (hi 3 0), (hr 394), (.bool true), (hi 181 0), (hr 395), .none, (hr 396), (hr 397), (hr 398), (hi 798 0), (hi 299 0), (hs "/claim/cut.py" 799)]
noncomputable abbrev o400 : Obj := hF 58 3 rfl "WordPlaces.right" 399 (hs "unicore.words" 725) .none
noncomputable abbrev o401 : Obj := hT []
noncomputable abbrev o403 : Obj := hT [(hs "self" 804), (hs "index" 805), (hs "many" 806)]
noncomputable abbrev o404 : Obj := hT []
noncomputable abbrev o406 : Obj := hC [(hs "flags" 801), (hs "WordPlaces.flags" 802), (hs "/claim/cut.py" 803), (hi 304 0), (hi 2 0), (hi 0 0), (hi 0 0), (hi 3 0), (hr 401), (.bool true), (hi 181 0), (hr 402), .none, (hr 403), (hr 404), (hr 405), (hi 807 0), (hi 304 0), (hs "/claim/cut.py" 808)]
noncomputable abbrev o407 : Obj := hF 58 4 rfl "WordPlaces.flags" 406 (hs "unicore.words" 725) .none
noncomputable abbrev o408 : Obj := hT [(hs "data" 810), (hs "text" 811)]
noncomputable abbrev o409 (P : Params) : Obj := ⟨(.type "dict"), none, (.dict #[he P "__module__" 762 (hs "unicore.words" 725), he P "__firstlineno__" 766 (hi 282 765), he P "__init__" 775 (hr 379), he P "sort" 783 (hr 386), he P "left" 792 (hr 393), he P "right" 800 (hr 400), he P "flags" 809 (hr 407), he P "__static_attributes__" 812 (hr 408), he P "__dict__" 814 (hr 411), he P "__weakref__" 816 (hr 412), he P "__doc__" 817 .none] 4), #[]⟩
noncomputable abbrev o410 : Obj := ⟨(.type "type"), none, (.cls { name := .ofString "WordPlaces", bases := [(.type "object")], mro := [(hr 410), (.type "object")], ns := 409, qualname := .ofString "WordPlaces" }), #[none, none, some (hs "WordPlaces" 755), some (hs "WordPlaces" 763), some (.builtin "object.__new__"), some (.bool true)]⟩
noncomputable abbrev o411 : Obj := ⟨(.type "getset_descriptor"), none, (.fields [(hs "__dict__" 813), (hr 410), (.builtin "function.__dict__"), (.builtin "function.__dict__#set")].toArray), #[]⟩
noncomputable abbrev o412 : Obj := ⟨(.type "getset_descriptor"), none, (.fields [(hs "__weakref__" 815), (hr 410), (.builtin "ExceptionGroup.__weakref__"), .none].toArray), #[]⟩
noncomputable abbrev o415 : Obj := hT []
noncomputable abbrev o417 : Obj := hT [(hs "one" 823), (hs "between" 824), (hs "other" 825)]
noncomputable abbrev o418 : Obj := hT []
noncomputable abbrev o420 : Obj := hC [(hs "word_bridges" 820), (hs "word_bridges" 821), (hs "/claim/cut.py" 822), (hi 310 0), (hi 3 0), (hi 0 0), (hi 0 0), (hi 3 0), (hr 415), (.bool true), (hi 181 0), (hr 416), .none, (hr 417), (hr 418), (hr 419), (hi 826 0), (hi 310 0), (hs "/claim/cut.py" 827)]
noncomputable abbrev o421 : Obj := hF 59 0 rfl "word_bridges" 420 (hs "unicore.words" 725) .none
noncomputable abbrev o422 : Obj := hT []
noncomputable abbrev o424 : Obj := hT [(hs "view" 832), (hs "at" 833), (hs "left" 834), (hs "after" 835), (hs "here" 836)]
noncomputable abbrev o425 : Obj := hT []
noncomputable abbrev o427 : Obj := hC [(hs "word_is_joined" 829), (hs "word_is_joined" 830), (hs "/claim/cut.py" 831), (hi 316 0), (hi 2 0), (hi 0 0), (hi 0 0), (hi 3 0), (hr 422), (.bool true), (hi 181 0), (hr 423), .none, (hr 424), (hr 425), (hr 426), (hi 837 0), (hi 316 0), (hs "/claim/cut.py" 838)]
noncomputable abbrev o428 : Obj := hF 60 0 rfl "word_is_joined" 427 (hs "unicore.words" 725) .none
noncomputable abbrev o429 : Obj := hT []
noncomputable abbrev o431 : Obj := hT [(hs "view" 843), (hs "at" 844), (hs "size" 845), (hs "before" 846), (hs "after" 847)]
noncomputable abbrev o432 : Obj := hT []
noncomputable abbrev o434 : Obj := hC [(hs "word_rule" 840), (hs "word_rule" 841), (hs "/claim/cut.py" 842), (hi 336 0), (hi 2 0), (hi 0 0), (hi 0 0), (hi 3 0), (hr 429), (.bool true), (hi 181 0), (hr 430), .none, (hr 431), (hr 432), (hr 433), (hi 848 0), (hi 336 0), (hs "/claim/cut.py" 849)]
noncomputable abbrev o435 : Obj := hF 61 0 rfl "word_rule" 434 (hs "unicore.words" 725) .none
noncomputable abbrev o436 : Obj := hT []
noncomputable abbrev o438 : Obj := hT [(hs "text" 854), (hs "at" 855), (hs "data" 856)]
noncomputable abbrev o439 : Obj := hT []
noncomputable abbrev o441 : Obj := hC [(hs "word_break" 851), (hs "word_break" 852), (hs "/claim/cut.py" 853), (hi 352 0), (hi 3 0), (hi 0 0), (hi 0 0), (hi 3 0), (hr 436), (.bool true), (hi 181 0), (hr 437), .none, (hr 438), (hr 439), (hr 440), (hi 857 0), (hi 352 0), (hs "/claim/cut.py" 858)]
noncomputable abbrev o442 : Obj := hF 62 0 rfl "word_break" 441 (hs "unicore.words" 725) .none
noncomputable abbrev o443 : Obj := hT []
noncomputable abbrev o445 : Obj := hT []
noncomputable abbrev o446 : Obj := hT []
noncomputable abbrev o448 : Obj := hC [(hs "_law_clusters" 862), (hs "_law_clusters" 863), (hs "/claim/cut.py" 864), (hi 355 0), (hi 0 0), (hi 0 0), (hi 0 0), (hi 3 0), (hr 443), (.bool true), (hi 181 0), (hr 444), .none, (hr 445), (hr 446), (hr 447), (hi 865 0), (hi 355 0), (hs "/claim/cut.py" 866)]
noncomputable abbrev o449 : Obj := hF 64 0 rfl "_law_clusters" 448 (hs "law_nt0055_01" 860) .none
noncomputable abbrev o450 : Obj := hT []
noncomputable abbrev o452 : Obj := hT []
noncomputable abbrev o453 : Obj := hT []
noncomputable abbrev o455 : Obj := hC [(hs "_law_words" 868), (hs "_law_words" 869), (hs "/claim/cut.py" 870), (hi 357 0), (hi 0 0), (hi 0 0), (hi 0 0), (hi 3 0), (hr 450), (.bool true), (hi 181 0), (hr 451), .none, (hr 452), (hr 453), (hr 454), (hi 871 0), (hi 357 0), (hs "/claim/cut.py" 872)]
noncomputable abbrev o456 : Obj := hF 65 0 rfl "_law_words" 455 (hs "law_nt0055_01" 860) .none
noncomputable abbrev o457 : Obj := hT []
noncomputable abbrev o459 : Obj := hT []
noncomputable abbrev o460 : Obj := hT []
noncomputable abbrev o462 : Obj := hC [(hs "_law_sentences" 874), (hs "_law_sentences" 875), (hs "/claim/cut.py" 876), (hi 359 0), (hi 0 0), (hi 0 0), (hi 0 0), (hi 3 0), (hr 457), (.bool true), (hi 181 0), (hr 458), .none, (hr 459), (hr 460), (hr 461), (hi 877 0), (hi 359 0), (hs "/claim/cut.py" 878)]
noncomputable abbrev o463 : Obj := hF 66 0 rfl "_law_sentences" 462 (hs "law_nt0055_01" 860) .none
noncomputable abbrev o464 : Obj := hT []
noncomputable abbrev o467 : Obj := hC [(hs "_law_deck" 880), (hs "_law_deck" 881), (hs "/claim/cut.py" 882), (hi 361 0), (hi 1 0), (hi 0 0), (hi 0 0), (hi 3 0), (hr 464), (.bool true), (hi 181 0), (hr 465), .none, .none, .none, (hr 466), (hi 883 0), (hi 361 0), (hs "/claim/cut.py" 884)]
noncomputable abbrev o468 : Obj := hF 67 0 rfl "_law_deck" 467 (hs "law_nt0055_01" 860) .none
noncomputable abbrev o469 : Obj := hT []
noncomputable abbrev o471 : Obj := hT [(hs "deck" 889), (hs "many" 890)]
noncomputable abbrev o472 : Obj := hT []
noncomputable abbrev o474 : Obj := hC [(hs "_law_draw" 886), (hs "_law_draw" 887), (hs "/claim/cut.py" 888), (hi 366 0), (hi 2 0), (hi 0 0), (hi 0 0), (hi 3 0), (hr 469), (.bool true), (hi 181 0), (hr 470), .none, (hr 471), (hr 472), (hr 473), (hi 891 0), (hi 366 0), (hs "/claim/cut.py" 892)]
noncomputable abbrev o475 : Obj := hF 68 0 rfl "_law_draw" 474 (hs "law_nt0055_01" 860) .none
noncomputable abbrev o476 : Obj := hT []
noncomputable abbrev o478 : Obj := hT [(hs "some" 897), (hs "word" 898), (hs "many" 899)]
noncomputable abbrev o479 : Obj := hT []
noncomputable abbrev o481 : Obj := hC [(hs "_law_count" 894), (hs "_law_count" 895), (hs "/claim/cut.py" 896), (hi 371 0), (hi 2 0), (hi 0 0), (hi 0 0), (hi 3 0), (hr 476), (.bool true), (hi 181 0), (hr 477), .none, (hr 478), (hr 479), (hr 480), (hi 900 0), (hi 371 0), (hs "/claim/cut.py" 901)]
noncomputable abbrev o482 : Obj := hF 69 0 rfl "_law_count" 481 (hs "law_nt0055_01" 860) .none
noncomputable abbrev o483 : Obj := hT []
noncomputable abbrev o486 : Obj := hC [(hs "_law_cluster" 903), (hs "_law_cluster" 904), (hs "/claim/cut.py" 905), (hi 376 0), (hi 2 0), (hi 0 0), (hi 0 0), (hi 3 0), (hr 483), (.bool true), (hi 181 0), (hr 484), .none, .none, .none, (hr 485), (hi 906 0), (hi 376 0), (hs "/claim/cut.py" 907)]
noncomputable abbrev o487 : Obj := hF 70 0 rfl "_law_cluster" 486 (hs "law_nt0055_01" 860) .none
noncomputable abbrev o488 : Obj := hT []
noncomputable abbrev o491 : Obj := hC [(hs "_law_kept" 909), (hs "_law_kept" 910), (hs "/claim/cut.py" 911), (hi 400 0), (hi 3 0), (hi 0 0), (hi 0 0), (hi 3 0), (hr 488), (.bool true), (hi 181 0), (hr 489), .none, .none, .none, (hr 490), (hi 912 0), (hi 400 0), (hs "/claim/cut.py" 913)]
noncomputable abbrev o492 : Obj := hF 71 0 rfl "_law_kept" 491 (hs "law_nt0055_01" 860) .none
noncomputable abbrev o493 : Obj := hT []
noncomputable abbrev o496 : Obj := hC [(hs "_law_word" 915), (hs "_law_word" 916), (hs "/claim/cut.py" 917), (hi 402 0), (hi 3 0), (hi 0 0), (hi 0 0), (hi 3 0), (hr 493), (.bool true), (hi 181 0), (hr 494), .none, .none, .none, (hr 495), (hi 918 0), (hi 402 0), (hs "/claim/cut.py" 919)]
noncomputable abbrev o497 : Obj := hF 72 0 rfl "_law_word" 496 (hs "law_nt0055_01" 860) .none
noncomputable abbrev o498 : Obj := hT []
noncomputable abbrev o501 : Obj := hC [(hs "_law_sentence" 921), (hs "_law_sentence" 922), (hs "/claim/cut.py" 923), (hi 430 0), (hi 2 0), (hi 0 0), (hi 0 0), (hi 3 0), (hr 498), (.bool true), (hi 181 0), (hr 499), .none, .none, .none, (hr 500), (hi 924 0), (hi 430 0), (hs "/claim/cut.py" 925)]
noncomputable abbrev o502 : Obj := hF 73 0 rfl "_law_sentence" 501 (hs "law_nt0055_01" 860) .none
noncomputable abbrev o503 : Obj := hT []
noncomputable abbrev o506 : Obj := hC [(hs "_law_told_right" 927), (hs "_law_told_right" 928), (hs "/claim/cut.py" 929), (hi 455 0), (hi 5 0), (hi 0 0), (hi 0 0), (hi 3 0), (hr 503), (.bool true), (hi 181 0), (hr 504), .none, .none, .none, (hr 505), (hi 930 0), (hi 455 0), (hs "/claim/cut.py" 931)]
noncomputable abbrev o507 : Obj := hF 74 0 rfl "_law_told_right" 506 (hs "law_nt0055_01" 860) .none
noncomputable abbrev o508 : Obj := hT []
noncomputable abbrev o511 : Obj := hC [(hs "law" 933), (hs "law" 934), (hs "/claim/cut.py" 935), (hi 474 0), (hi 1 0), (hi 0 0), (hi 0 0), (hi 3 0), (hr 508), (.bool true), (hi 181 0), (hr 509), .none, .none, .none, (hr 510), (hi 936 0), (hi 474 0), (hs "/claim/cut.py" 937)]
noncomputable abbrev o512 : Obj := hF 75 0 rfl "law" 511 (hs "law_nt0055_01" 860) .none
noncomputable def KT (P : Params) : Frag := [(2, o2), (3, o3 P), (15, o15), (17, o17), (18, o18), (20, o20), (21, o21), (22, o22), (24, o24), (25, o25), (27, o27), (28, o28), (36, o36), (38, o38), (39, o39), (41, o41), (42, o42), (43, o43), (45, o45), (46, o46), (48, o48), (49, o49), (50, o50), (51, o51 P), (52, o52), (53, o53), (54, o54), (64, o64), (65, o65), (67, o67), (68, o68), (70, o70), (71, o71), (72, o72), (74, o74), (75, o75), (77, o77), (78, o78), (79, o79), (82, o82), (83, o83), (84, o84), (87, o87), (88, o88), (89, o89), (91, o91), (92, o92), (94, o94), (95, o95), (96, o96), (98, o98), (99, o99), (101, o101), (102, o102), (103, o103), (104, o104 P), (105, o105), (106, o106), (107, o107), (110, o110), (112, o112), (113, o113), (115, o115), (116, o116), (117, o117), (119, o119), (120, o120), (122, o122), (123, o123), (124, o124), (125, o125), (126, o126), (127, o127), (129, o129), (130, o130), (132, o132), (133, o133), (134, o134), (136, o136), (137, o137), (139, o139), (140, o140), (141, o141), (143, o143), (144, o144), (146, o146), (147, o147), (148, o148), (150, o150), (151, o151), (153, o153), (154, o154), (155, o155), (157, o157), (158, o158), (160, o160), (161, o161), (162, o162), (164, o164), (165, o165), (167, o167), (168, o168), (169, o169), (171, o171), (172, o172), (174, o174), (175, o175), (176, o176), (177, o177), (179, o179), (180, o180), (182, o182), (183, o183), (184, o184), (186, o186), (187, o187), (189, o189), (190, o190), (191, o191), (193, o193), (194, o194), (196, o196), (197, o197), (198, o198), (200, o200), (201, o201), (203, o203), (204, o204), (212, o212), (214, o214), (215, o215), (217, o217), (218, o218), (219, o219), (221, o221), (222, o222), (224, o224), (225, o225), (226, o226), (228, o228), (229, o229), (231, o231), (232, o232), (233, o233), (235, o235), (236, o236), (238, o238), (239, o239), (240, o240), (242, o242), (243, o243), (245, o245), (246, o246), (247, o247), (248, o248 P), (249, o249), (250, o250), (251, o251), (254, o254), (256, o256), (257, o257), (259, o259), (260, o260), (268, o268), (270, o270), (271, o271), (273, o273), (274, o274), (275, o275), (277, o277), (278, o278), (280, o280), (281, o281), (282, o282), (284, o284), (285, o285), (287, o287), (288, o288), (289, o289), (291, o291), (292, o292), (294, o294), (295, o295), (296, o296), (297, o297 P), (298, o298), (299, o299), (300, o300), (303, o303), (304, o304), (305, o305), (306, o306), (307, o307), (308, o308), (309, o309), (310, o310), (312, o312), (313, o313), (315, o315), (316, o316), (317, o317), (319, o319), (320, o320), (322, o322), (323, o323), (324, o324), (326, o326), (327, o327), (329, o329), (330, o330), (331, o331), (333, o333), (334, o334), (336, o336), (337, o337), (338, o338), (340, o340), (341, o341), (343, o343), (344, o344), (345, o345), (347, o347), (348, o348), (350, o350), (351, o351), (352, o352), (354, o354), (355, o355), (357, o357), (358, o358), (359, o359), (360, o360), (361, o361), (362, o362), (363, o363), (364, o364), (365, o365), (373, o373), (375, o375), (376, o376), (378, o378), (379, o379), (380, o380), (382, o382), (383, o383), (385, o385), (386, o386), (387, o387), (389, o389), (390, o390), (392, o392), (393, o393), (394, o394), (396, o396), (397, o397), (399, o399), (400, o400), (401, o401), (403, o403), (404, o404), (406, o406), (407, o407), (408, o408), (409, o409 P), (410, o410), (411, o411), (412, o412), (415, o415), (417, o417), (418, o418), (420, o420), (421, o421), (422, o422), (424, o424), (425, o425), (427, o427), (428, o428), (429, o429), (431, o431), (432, o432), (434, o434), (435, o435), (436, o436), (438, o438), (439, o439), (441, o441), (442, o442), (443, o443), (445, o445), (446, o446), (448, o448), (449, o449), (450, o450), (452, o452), (453, o453), (455, o455), (456, o456), (457, o457), (459, o459), (460, o460), (462, o462), (463, o463), (464, o464), (467, o467), (468, o468), (469, o469), (471, o471), (472, o472), (474, o474), (475, o475), (476, o476), (478, o478), (479, o479), (481, o481), (482, o482), (483, o483), (486, o486), (487, o487), (488, o488), (491, o491), (492, o492), (493, o493), (496, o496), (497, o497), (498, o498), (501, o501), (502, o502), (503, o503), (506, o506), (507, o507), (508, o508), (511, o511), (512, o512)]
noncomputable def asT : List Nat := [2, 3, 15, 17, 18, 20, 21, 22, 24, 25, 27, 28, 36, 38, 39, 41, 42, 43, 45, 46, 48, 49, 50, 51, 52, 53, 54, 64, 65, 67, 68, 70, 71, 72, 74, 75, 77, 78, 79, 82, 83, 84, 87, 88, 89, 91, 92, 94, 95, 96, 98, 99, 101, 102, 103, 104, 105, 106, 107, 110, 112, 113, 115, 116, 117, 119, 120, 122, 123, 124, 125, 126, 127, 129, 130, 132, 133, 134, 136, 137, 139, 140, 141, 143, 144, 146, 147, 148, 150, 151, 153, 154, 155, 157, 158, 160, 161, 162, 164, 165, 167, 168, 169, 171, 172, 174, 175, 176, 177, 179, 180, 182, 183, 184, 186, 187, 189, 190, 191, 193, 194, 196, 197, 198, 200, 201, 203, 204, 212, 214, 215, 217, 218, 219, 221, 222, 224, 225, 226, 228, 229, 231, 232, 233, 235, 236, 238, 239, 240, 242, 243, 245, 246, 247, 248, 249, 250, 251, 254, 256, 257, 259, 260, 268, 270, 271, 273, 274, 275, 277, 278, 280, 281, 282, 284, 285, 287, 288, 289, 291, 292, 294, 295, 296, 297, 298, 299, 300, 303, 304, 305, 306, 307, 308, 309, 310, 312, 313, 315, 316, 317, 319, 320, 322, 323, 324, 326, 327, 329, 330, 331, 333, 334, 336, 337, 338, 340, 341, 343, 344, 345, 347, 348, 350, 351, 352, 354, 355, 357, 358, 359, 360, 361, 362, 363, 364, 365, 373, 375, 376, 378, 379, 380, 382, 383, 385, 386, 387, 389, 390, 392, 393, 394, 396, 397, 399, 400, 401, 403, 404, 406, 407, 408, 409, 410, 411, 412, 415, 417, 418, 420, 421, 422, 424, 425, 427, 428, 429, 431, 432, 434, 435, 436, 438, 439, 441, 442, 443, 445, 446, 448, 449, 450, 452, 453, 455, 456, 457, 459, 460, 462, 463, 464, 467, 468, 469, 471, 472, 474, 475, 476, 478, 479, 481, 482, 483, 486, 487, 488, 491, 492, 493, 496, 497, 498, 501, 502, 503, 506, 507, 508, 511, 512]


end UniH
namespace UniH
noncomputable abbrev qC : Program := view pwC [0,2,3,4,6,7,8,9,10,11,12,14,15,16,17,18,19,20,21,22,23,25,27,28,30,31,33,34,36,37,38,39,40,41,42,43,44,45,46,47,48,49,51,52,53,54,55,56,57,58,59,60,61,62,64,65,66,67,68,69,70,71,72,73,74,75]
noncomputable abbrev qL : List Str := [Str.ofString "SYLLABLES", Str.ofString "cluster_break"]
noncomputable abbrev qX : List (Str × WData) := [(Str.ofString "SYLLABLES", WData.int 11172)]
noncomputable def stepQ := @PySem.W.Fast.tw10156331382660048174
noncomputable def denQ := @PySem.W.Fast.tw11892475500146522536
noncomputable def okQ := @PySem.W.Fast.tw6613529449190102663
noncomputable def tabQ := @PySem.W.Fast.tw14364793385576792824
noncomputable def seenQ := @PySem.W.Fast.tw4187177175401517315
noncomputable def nsQ := @PySem.W.Fast.tw8920871248978507458
noncomputable def topRunT (tb : String → Option Builtin) (p : Program) (w : World) (n₀ : Nat) (ann : Option Value) : Nat → SharedT → Thread → Option SharedT
  | 0, _, _ => none
  | n + 1, s, t => match through t with
    | true => some s
    | false => match okQ n₀ ann t with
      | false => none
      | true => match stepQ (denQ tb) p w s t with
        | some (s', t') => topRunT tb p w n₀ ann n s' t'
        | none => none
theorem topRun_of {tb : String → Option Builtin} {p : Program} {w : World} {n₀ : Nat} {ann : Option Value} : ∀ {n : Nat} {s s' : SharedT} {t : Thread}, topRunT tb p w n₀ ann n s t = some s' → topRun tb p w n₀ ann n s.abs t = some s'.abs
  | 0, _, _, _, h => by cases h
  | n + 1, s, s', t, h => by
    unfold topRunT at h
    unfold topRun
    rw [show okQ = stepOk from PySem.W.Fast.te6613529449190102663.symm, show @stepQ = @stepT from PySem.W.Fast.te10156331382660048174.symm, show denQ = denote from PySem.W.Fast.te11892475500146522536.symm] at h
    cases he : through t with
    | true => rw [he] at h; cases h; rfl
    | false =>
      rw [he] at h
      cases hk : stepOk n₀ ann t with
      | false => rw [hk] at h; cases h
      | true =>
        rw [hk] at h
        cases hs : stepT (denote tb) p w s t with
        | none => rw [hs] at h; cases h
        | some r => obtain ⟨s₂, t₂⟩ := r; rw [hs] at h; dsimp only; rw [stepT_spec hs]; exact topRun_of h
noncomputable def btOf (l : List Obj) : BT := (l.foldl (fun x o => (x.1.ins x.2 o, x.2 + 1)) (BT.nil, 0)).1
noncomputable def bootS (w : World) (os : OsState) : SharedT := ⟨btOf (boot_heap w.params).objs.toList, (boot_heap w.params).objs.size, (boot_heap w.params).life, Array.mk [], boot_drawn, boot_toks, os⟩
theorem bootS_abs (w : World) (os : OsState) : (bootS w os).abs = ⟨boot_heap w.params, Array.mk [], boot_drawn, boot_toks, os⟩ := by kernel_rfl
noncomputable abbrev kHk : Hook := kmHook KT asT (fun _ => by kernel_rfl) [509]
theorem obs_of {f : SharedT} {β : Type} {φ : β → Obj} : ∀ {as : List Nat} {l : List β}, as.map (fun a => (Nat.blt a f.n, (f.tree.get a).bind alive)) = l.map (fun o => (true, some (φ o))) → as.map f.abs.heap.get? = l.map fun o => some (φ o)
  | [], [], _ => rfl
  | [], _ :: _, h => nomatch h
  | _ :: _, [], h => nomatch h
  | a :: as, o :: l, h => by
    simp only [List.map_cons, List.cons.injEq, Prod.mk.injEq] at h ⊢
    obtain ⟨⟨h1, h2⟩, h3⟩ := h
    obtain ⟨o', g, e⟩ := Option.bind_eq_some_iff.mp h2
    exact ⟨(abs_get (Nat.le_of_ble_eq_true h1) g).trans e, obs_of h3⟩
noncomputable abbrev fin (w : World) (os : OsState) := topRunT tabQ pwC w (boot_heap w.params).objs.size (nsQ (boot_heap w.params) mainGlobals "__annotations__") 6604 (bootS w os) (topStub pwC)
theorem left_objs : ∀ w os, (fin w os).map (fun f => (asT.map (fun a => (Nat.blt a f.n, (f.tree.get a).bind alive)), [509].map (fun a => (Nat.blt a f.n, (f.tree.get a).bind alive)))) = some ((KT w.params).map (fun o => (true, some o.2)), [509].map fun _ => (true, some (tabObj #[]))) := fun w os => by kernel_rfl
noncomputable def looksT (w : World) (s : Shared) :=
  (staticsOk (importedModules pwC.main.body) (boot_heap w.params) s.heap && namesBound pwC s.heap && gensDone s && laidKept (boot_heap w.params) s.heap,
    seenQ qC qL (importedModules pwC.main.body) (fun s => xlAt qC qX s && recOk [] s) true s)
theorem left_looks : ∀ w os, (fin w os).map (fun f => looksT w f.abs) = some (true, openGood qC qL) := fun w os => by kernel_rfl
theorem left_opening : ∀ w : World, (fencedOpening treeTable pwC w 6604).map (fun s => (s.heap, s.gens, s.drawn, s.toks)) = some (boot_heap w.params, Array.mk [], boot_drawn, boot_toks) :=
  boot_open (by kernel_rfl) (by rfl) fun _ => by kernel_rfl
theorem left_ns (w : World) : ((boot_heap w.params).isNs mainGlobals && (Array.mk [] : Array GenState).size == 0) = true := by kernel_rfl
theorem leftO : LeftO pwC qC qL (fun s => xlAt qC qX s && recOk [] s) kHk.obs kHk.val 6604 := fun w => by
  obtain ⟨s, hs, hv⟩ := Option.map_eq_some_iff.mp (left_opening w)
  obtain ⟨h, gs, d, k, os⟩ := s
  obtain ⟨rfl, rfl, rfl, rfl⟩ : h = boot_heap w.params ∧ gs = Array.mk [] ∧ d = boot_drawn ∧ k = boot_toks := by simpa using hv
  obtain ⟨f, hf, hl⟩ := Option.map_eq_some_iff.mp (left_looks w os)
  obtain ⟨f', hf', hb⟩ := Option.map_eq_some_iff.mp (left_objs w os)
  obtain rfl : f' = f := Option.some.inj (hf'.symm.trans hf)
  obtain ⟨b1, b2⟩ := Prod.mk.inj hb
  have hr := topRun_of hf
  rw [bootS_abs, show tabQ = treeTable from PySem.W.Fast.te14364793385576792824.symm, show @nsQ = @Heap.nsMap from PySem.W.Fast.te8920871248978507458.symm] at hr
  unfold looksT at hl
  rw [show @seenQ = @openSeen from PySem.W.Fast.te4187177175401517315.symm] at hl
  obtain ⟨l1, l2⟩ := Prod.mk.inj hl
  have t : topFrom treeTable pwC w 6604 ⟨boot_heap w.params, Array.mk [], boot_drawn, boot_toks, os⟩ = some f'.abs := by
    unfold topFrom
    dsimp only
    rw [left_ns w]
    dsimp only
    rw [hr, Option.bind_some, l1]
  unfold openEnds
  rw [hs, Option.bind_some, t, Option.map_some]
  exact congrArg some (Prod.ext l2 (Prod.ext (obs_of b1) (obs_of b2)))
end UniH
namespace UniH
noncomputable abbrev rowC := PySem.Challenge.rw_nt0055_01.row.toRowW
theorem saidQ : PySem.W.Fast.tw9446332074065402090 PySem.Challenge.rw_nt0055_01 = true := by kernel_rfl
theorem wellQ : (chainsOk qC && opensWell pwC && (frees rowC && rowC.claim.within.isEmpty)) = true := by kernel_rfl
theorem hd {d : DefRec} {kwd : List (Str × Expr)} (hdef : defOf qC rowC.name = some (d, kwd)) (hp : rowC.prog.theDef rowC.name = some (d.params, d.body, d.scope)) (hk : kwWritten? d.params.kwonlyargs d.params.kw_defaults = some kwd)
    (hc : WalkO qC qL (XL qC qX) kHk.says rowC d kwd fun f vs => PySem.call f vs) : PySem.Challenge.rw_nt0055_01.Holds := by
  refine holds_law ((congrFun PySem.W.Fast.te9446332074065402090 _).trans saidQ) fun said => ?_
  refine holds_open (q := qC) (loose := qL) (Xt := fun s => xlAt qC qX s && recOk (RowW.records rowC) s) (XP := XL qC qX) (Yf := Hook.obs kHk) (Ya := Hook.val kHk) (YP := Hook.says kHk) (N := 6604) ?hl (Hook.of kHk) (Hook.keeps kHk)
    (fun s e => xl_of s (Bool.and_eq_true_iff.mp e).1) XL.keeps hdef hp hk (fun s e => recFacts_of (Bool.and_eq_true_iff.mp e).2) (by rfl) said wellQ ⟨rfl, rfl, rfl, rfl, rfl, by decide +kernel⟩ ?hw hc
  case hl => exact leftO
  case hw => w_witness2
end UniH
namespace Uni
theorem Ar.tnS (n : Nat) : ((n : Int) - 1).toNat = n - 1 := Int.toNat_sub n 1
theorem Ar.tnA (n : Nat) : ((n : Int) + 1).toNat = n + 1 := rfl
theorem Ar.tn1 (n : Nat) : (1 + (n : Int)).toNat = n + 1 := Nat.add_comm 1 n
theorem Ar.tn97 (n : Nat) : (97 + (n : Int) - 97).toNat = n := by rw [Int.add_comm, Int.add_sub_cancel]; rfl
theorem Ar.tn11 (n : Nat) : ((1 + (n : Int)) - 1).toNat = n := by rw [Int.add_comm, Int.add_sub_cancel]; rfl
theorem Ar.tSS (n m : Nat) : ((n : Int) - 1 - (m : Int)).toNat = n - 1 - m := by rw [Int.sub_sub, Nat.sub_sub]; exact Int.toNat_sub n (1 + m)
theorem Ar.tSp (n m : Nat) : ((n : Int) - 1 - (1 + (m : Int))).toNat = n - 1 - (1 + m) := Ar.tSS n (1 + m)
theorem Ar.suc {i n : Nat} (h : i < n) : n - i = n - (i + 1) + 1 := (Nat.succ_pred_eq_of_pos (Nat.sub_pos_of_lt h)).symm
theorem Ar.dec {m n j : Nat} (h : m = n - j) (h2 : j < n) : n - (j + 1) < m := by rw [h, Ar.suc h2]; exact Nat.lt_succ_self _
theorem Ar.decI {m n j : Nat} (h : m = n - j) (h2 : (j : Int) < n) : n - (j + 1) < m := Ar.dec h (Int.ofNat_lt.mp h2)
theorem Ar.c1 {i n : Nat} (h : i < ((n : Int) - 1).toNat) : 1 + (i : Int) < n := by rw [Ar.tnS] at h; rw [Int.add_comm]; exact Int.ofNat_lt.mpr (Nat.add_lt_of_lt_sub h)
theorem Ar.c2 {i n : Nat} (h : i < ((n : Int) - 1).toNat) : 1 + (i : Int) - 1 < n := Int.lt_of_le_of_lt (Int.sub_le_self _ (by decide)) (Ar.c1 h)
theorem Ar.nn1 (i : Nat) : (0 : Int) ≤ 1 + i := Int.natCast_nonneg (1 + i)
theorem Ar.nnA (i : Nat) : (0 : Int) ≤ (i : Int) + 1 := Int.natCast_nonneg (i + 1)
theorem Ar.c3 {i n : Nat} (h : i < ((n : Int) - 1).toNat) : 0 ≤ 1 + (i : Int) - 1 ∧ 1 + (i : Int) - 1 < n := ⟨by rw [Int.add_comm, Int.add_sub_cancel]; exact Int.natCast_nonneg i, Ar.c2 h⟩
theorem Ar.c4 {i n : Nat} (h : i < ((n : Int) - 1).toNat) : 0 ≤ 1 + (i : Int) ∧ 1 + (i : Int) < n := ⟨Ar.nn1 i, Ar.c1 h⟩
theorem Ar.as {j k : Nat} (h : 1 ≤ j) : k + j - 1 = k + (j - 1) := Nat.add_sub_assoc h k
theorem Ar.as' {j k : Nat} (h : 1 ≤ j) : k + (j - 1) = k + j - 1 := (Ar.as h).symm
theorem Ar.km {j k : Nat} (h : j < k) : k - 1 - j < k := Nat.lt_of_le_of_lt (Nat.sub_le _ j) (Nat.sub_lt (Nat.lt_of_le_of_lt (Nat.zero_le j) h) (by decide))
theorem Ar.ix {i n : Nat} (h : i < n) : 0 ≤ (i : Int) ∧ (i : Int) < n := ⟨Int.natCast_nonneg i, Int.ofNat_lt.mpr h⟩
theorem Ar.sz {n : Nat} (h : n ≤ 1000) : n ≤ 16777216 := Nat.le_trans h (by decide)
theorem Ar.sz9 {n : Nat} (h : n ≤ 900) : n ≤ 16777216 := Nat.le_trans h (by decide)
theorem Ar.sz91 {n : Nat} (h : n ≤ 900) : n ≤ 1000 := Nat.le_trans h (by decide)
theorem Ar.pl {n k : Nat} (h : n < k) : n + 1 ≤ k := h
theorem Ar.ltd {i n : Nat} (h : (i : Int) < n) : i < n := Int.ofNat_lt.mp h
theorem Ar.n0 {j : Nat} (h : ¬ j = 0) : 1 ≤ j := Nat.pos_of_ne_zero h
theorem Ar.n0' {j : Nat} (h : ¬ j = 0) : 0 < j := Nat.pos_of_ne_zero h
theorem Ar.pred {j n : Nat} (h : j < n) : j - 1 < n := Nat.lt_of_le_of_lt (Nat.sub_le j 1) h
theorem Ar.predE {j n : Nat} (h : j ≤ n) : j - 1 ≤ n := Nat.le_trans (Nat.sub_le j 1) h
theorem Ar.b1 {a : Int} {b : Nat} (h : 0 ≤ a) (h2 : a < b) : a.toNat < b := (Int.toNat_lt h).mpr h2
theorem Ar.b2 {a b : Nat} (h : b < a) : a - (b + 1) < a - b := Nat.sub_lt_sub_left h (Nat.lt_succ_self b)
theorem Ar.b3 {a : Nat} : (a : Int) % 2 = 1 ↔ a % 2 = 1 := Int.ofNat_inj (m := a % 2) (n := 1)
theorem Ar.m3 {b c x y : Nat} (h : b ≤ 900) (hc : c ≤ 2) : min x b + c + (b - y) ≤ 16777216 :=
  Nat.le_trans (Nat.add_le_add (Nat.add_le_add (Nat.le_trans (Nat.min_le_right _ _) h) hc) (Nat.le_trans (Nat.sub_le _ _) h)) (by decide)
theorem Ar.m3e {b c x y e : Nat} (h : e ≤ 900) (he : b = e) (hc : c ≤ 2) : min x b + c + (b - y) ≤ 16777216 := Ar.m3 (he ▸ h) hc
theorem Ar.m4 {a b c d : Nat} (hd : d ≤ b) (hc : c ≤ 2) (h : a ≤ d) : min a b + c + (b - d) ≤ b + 2 :=
  Nat.le_trans (Nat.add_le_add_right (Nat.add_le_add (Nat.le_trans (Nat.min_le_left _ _) h) hc) _) (Nat.le_of_eq (by rw [Nat.add_right_comm, Nat.add_sub_of_le hd]))
theorem Ar.m5 {a b c d : Nat} (hb : b ≤ 900) (hd : d ≤ b) (hc : c ≤ 2) (h : a ≤ d) : min a b + c + (b - d) ≤ 1000 := Nat.le_trans (Ar.m4 hd hc h) (Nat.le_trans (Nat.add_le_add_right hb 2) (by decide))
theorem Ar.m6 {b c x : Nat} (h : b ≤ 900) (hc : c ≤ 2) : min x b + c ≤ 16777216 := Nat.le_trans (Nat.add_le_add (Nat.le_trans (Nat.min_le_right _ _) h) hc) (by decide)
theorem Ar.m6e {b c x e : Nat} (h : e ≤ 900) (he : b = e) (hc : c ≤ 2) : min x b + c ≤ 16777216 := Ar.m6 (he ▸ h) hc
theorem Ar.b4 {a b : Nat} (h : a < b - 1) : a + 1 < b := Nat.add_lt_of_lt_sub h
theorem Ar.b5 {e c d : Nat} (h : e - c = d + 1) : e - (c + 1) = d := by rw [Nat.sub_add_eq, h]; rfl
theorem Ar.m7 {a b c k : Nat} (h : c ≤ 1000) (ha : a ≤ min k c + 1) (hb : b ≤ c - k + 1) : a + (b - 1) ≤ 16777216 :=
  Nat.le_trans (Nat.add_le_add (Nat.le_trans ha (Nat.succ_le_succ (Nat.le_trans (Nat.min_le_right _ _) h))) (Nat.sub_le_of_le_add (Nat.le_trans hb (Nat.succ_le_succ (Nat.le_trans (Nat.sub_le _ _) h))))) (by decide)
theorem Ar.i7 {c : Int} {d : Nat} (h : c < 7) (hd : c.toNat = d) : d ≤ 7 := hd ▸ Int.toNat_le.mpr (Int.le_of_lt h)
theorem Ar.m8 {c : Int} {a b d : Nat} (h : c < 7) (hd : c.toNat = d) (ha : a ≤ 2) (hb : b ≤ d) : min (Int.toNat 1) a + b + (a - Int.toNat 1) ≤ 16777216 :=
  Nat.le_trans (Nat.add_le_add (Nat.add_le_add (Nat.min_le_left _ _) (Nat.le_trans hb (Ar.i7 h hd))) (Nat.le_trans (Nat.sub_le _ _) ha)) (by decide)
theorem Ar.m9 {c : Int} {a b d : Nat} (h : c < 7) (hd : c.toNat = d) (hb : b ≤ d) : min (Int.toNat 1) a + b ≤ 16777216 := Nat.le_trans (Nat.add_le_add (Nat.min_le_left _ _) (Nat.le_trans hb (Ar.i7 h hd))) (by decide)
theorem Ar.decA {m n j : Nat} {p : Prop} (h : m = n - j) (h2 : (j : Int) < n ∧ p) : n - (j + 1) < m := Ar.decI h h2.1
theorem Ar.b6 {a b c : Nat} (h : a + (c + 1) < b) : a < b := Nat.lt_of_le_of_lt (Nat.le_add_right _ _) h
theorem Ar.hf {lo hi mid : Nat} (h : lo < hi) (hm : (lo + hi) / 2 = mid) : lo ≤ mid := hm ▸ (Nat.le_div_iff_mul_le (by decide)).mpr (by rw [Nat.mul_two]; exact Nat.add_le_add_left (Nat.le_of_lt h) lo)
theorem Ar.hg {lo hi mid : Nat} (h : lo < hi) (hm : (lo + hi) / 2 = mid) : mid < hi := hm ▸ Nat.div_lt_of_lt_mul (by rw [Nat.two_mul]; exact Nat.add_lt_add_right h hi)
theorem Ar.h1 {lo hi mid : Nat} (h : lo < hi) (hm : (lo + hi) / 2 = mid) : hi - (mid + 1) < hi - lo := Nat.sub_lt_sub_left h (Nat.lt_succ_of_le (Ar.hf h hm))
theorem Ar.h2 {lo hi mid : Nat} (h : lo < hi) (hm : (lo + hi) / 2 = mid) : mid - lo < hi - lo := Nat.sub_lt_sub_right (Ar.hf h hm) (Ar.hg h hm)
theorem Ar.h3 {lo hi mid n : Nat} (hn : hi ≤ n) (h : lo < hi) (hm : (lo + hi) / 2 = mid) : mid < n := Nat.lt_of_lt_of_le (Ar.hg h hm) hn
theorem Ar.g1 {a b c d : Nat} (h : ¬d = 0) : a + (b + c + d - 1 - b - c) = a + d - 1 := by
  obtain ⟨t, rfl⟩ : ∃ t, d = t + 1 := ⟨d - 1, (Nat.succ_pred h).symm⟩
  show a + (b + c + t - b - c) = a + t
  rw [Nat.sub_sub, Nat.add_sub_cancel_left]
theorem Ar.g2 {a b c : Nat} (h : ¬c = 0) : ¬a + b + c - 1 < a + b := by
  obtain ⟨t, rfl⟩ : ∃ t, c = t + 1 := ⟨c - 1, (Nat.succ_pred h).symm⟩
  exact Nat.not_lt.mpr (Nat.le_add_right (a + b) t)
theorem Ar.g3 {a b c : Nat} (h : ¬c = 0) : ¬a + b + c - 1 < a := fun q => Ar.g2 h (Nat.lt_of_lt_of_le q (Nat.le_add_right a b))
theorem Ar.g4 {a b : Nat} (h : 0 < b) : ¬a + b - 1 < a := Ar.g2 (a := a) (b := 0) (Nat.ne_of_gt h)
theorem Ar.g5 {a b : Nat} (h : 0 < b) : a + b - 1 < a + b := Nat.sub_lt (Nat.add_pos_right a h) (by decide)
theorem Ar.g6 {a b : Nat} : a + b - 1 - a = b - 1 := by rw [Nat.sub_right_comm, Nat.add_sub_cancel_left]
theorem Ar.t1 {a b c : Nat} (h : 1 ≤ a) (h2 : a < b) (h3 : b ≤ c) : 0 ≤ (a : Int) - 1 ∧ (a : Int) - 1 < b ∧ b ≤ c := ⟨Int.sub_nonneg_of_le (Int.ofNat_le.mpr h), Int.lt_of_le_of_lt (Int.sub_le_self _ (by decide)) (Int.ofNat_lt.mpr h2), h3⟩
theorem Ar.t2 {a b : Nat} (h : 1 ≤ a) (h2 : a < b) : 0 ≤ (a : Int) - 1 ∧ (a : Int) - 1 < b := ⟨(Ar.t1 h h2 (Nat.le_refl b)).1, (Ar.t1 h h2 (Nat.le_refl b)).2.1⟩
theorem Ar.t3 {a b c : Nat} (h2 : a < b) (h3 : b ≤ c) : 0 ≤ (a : Int) ∧ (a : Int) < b ∧ b ≤ c := ⟨Int.natCast_nonneg a, Int.ofNat_lt.mpr h2, h3⟩
theorem Ar.b7 {a x : Nat} : ((a : Int) + 1 - (x : Int)).toNat = a + 1 - x := Int.toNat_sub (a + 1) x
theorem Ar.b8 {c e f : Nat} (h0 : e = f) (h : c < e) : f - c = f - c - 1 + 1 := (Nat.succ_pred_eq_of_pos (Nat.sub_pos_of_lt (h0 ▸ h))).symm
theorem Ar.b9 {a b : Nat} (h : a < b - 1) : 1 ≤ 1 + (a : Int) ∧ 1 + (a : Int) < b := ⟨Int.ofNat_le.mpr (Nat.le_add_right 1 a), by rw [Int.add_comm]; exact Int.ofNat_lt.mpr (Ar.b4 h)⟩
theorem Ar.s1 {a b k : Nat} (h : b ≤ 1000) (ha : a ≤ b - k + 1) : a ≤ 16777216 := Nat.le_trans ha (Nat.le_trans (Nat.succ_le_succ (Nat.le_trans (Nat.sub_le _ _) h)) (by decide))
theorem Ar.s2 {a b k x : Nat} (h : b ≤ 1000) (ha : a ≤ b - k + 1) : a - x ≤ 16777216 := Nat.le_trans (Nat.sub_le _ _) (Ar.s1 h ha)
theorem Ar.s3 {a b : Nat} (h : b ≤ 1000) (ha : a ≤ b + 1) : a ≤ 16777216 := Ar.s1 (k := 0) h ha
theorem Ar.s4 {a b : Nat} (h : b ≤ 1000) (ha : a ≤ b + 1) : ((a : Int) - 1).toNat ≤ 16777216 := Ar.tnS a ▸ Nat.le_trans (Nat.sub_le _ _) (Ar.s3 h ha)
theorem Ar.s5 {b : Nat} (h : b ≤ 1000) : ((b : Int) - 1).toNat ≤ 16777216 := Ar.s4 h (Nat.le_succ b)
theorem Ar.s6 {a : Nat} : ((a : Int) - 1).toNat ≤ a := Ar.tnS a ▸ Nat.sub_le a 1
theorem Ar.s7 {a : Nat} (h : a ≤ 7) : ((a : Int) - 1).toNat ≤ 16777216 := Ar.s5 (Nat.le_trans h (by decide))
theorem Ar.s8 {a : Nat} (h : a ≤ 1000) : ((a : Int) + 1).toNat ≤ 16777216 := Nat.le_trans (Nat.succ_le_succ h) (by decide)
theorem Ar.p1 {a d b : Nat} (h : d < b) (ha : a ≤ d - 1) (h0 : decide (0 ≤ (a : Int) - 1) = true) : 0 ≤ (a : Int) - 1 ∧ (a : Int) - 1 < b := Ar.t2 (Int.ofNat_le.mp (Int.le_of_sub_nonneg (of_decide_eq_true h0))) (Nat.lt_of_le_of_lt (Nat.le_trans ha (Nat.sub_le _ _)) h)
theorem Ar.p2 {a d b c : Nat} (h : d < b) (hb : b ≤ c) (ha : a ≤ d - 1) (h0 : decide (0 ≤ (a : Int) - 1) = true) : 0 ≤ (a : Int) - 1 ∧ (a : Int) - 1 < b ∧ b ≤ c := ⟨(Ar.p1 h ha h0).1, (Ar.p1 h ha h0).2, hb⟩
theorem Ar.p3 {a b c : Nat} (h : c < b) (ha : a + 1 ≤ c - 1) : a < b := Nat.lt_of_lt_of_le ha (Nat.le_trans (Nat.sub_le _ _) (Nat.le_of_lt h))
theorem Ar.cs {a : Nat} (h : 1 ≤ a) : (a : Int) - 1 = ((a - 1 : Nat) : Int) := (Int.ofNat_sub h).symm
theorem Ar.p4 {a : Nat} (h : 1 ≤ a) : (a : Int) - 2 = ((a - 1 : Nat) : Int) - 1 := by rw [← Ar.cs h, Int.sub_sub]; rfl
theorem Ar.c5 {a b : Nat} (h : a < b) : a - 1 ≤ b := Nat.le_trans (Nat.sub_le _ _) (Nat.le_of_lt h)
theorem Ar.o1 {a : Nat} {b : Int} (h : ¬(0 ≤ b ∧ b < (a : Int))) (h0 : 0 ≤ b) : (a : Int) ≤ b := Int.not_lt.mp fun q => h ⟨h0, q⟩
theorem Ar.o2 {a : Nat} {b : Int} (h : ¬(0 ≤ b ∧ b < (a : Int))) (h0 : 0 ≤ b) : a ≤ b.toNat := (Int.le_toNat h0).mpr (Ar.o1 h h0)
theorem Ar.ne {a b : Nat} (h : 1 ≤ a) (h2 : a < b) : ¬a = 0 ∧ ¬a = b := ⟨Nat.ne_of_gt h, Nat.ne_of_lt h2⟩
theorem Ar.ne2 {a b : Nat} (h : 1 ≤ a) (h2 : a < b) : ¬a = 0 ∧ a < b := ⟨Nat.ne_of_gt h, h2⟩
theorem Ar.mn {a b : Nat} (h : a < b) : min a b = a := Nat.min_eq_left (Nat.le_of_lt h)
theorem Ar.as2 {a b : Nat} (h : a ≤ b) : a + (b - a) = b := Nat.add_sub_of_le h
theorem Ar.t4 {a : Int} {b c : Nat} (h : b ≤ c) (h2 : 0 ≤ a ∧ a < b) : 0 ≤ a ∧ a < b ∧ b ≤ c := ⟨h2.1, h2.2, h⟩
theorem Ar.d1 {a : Nat} : (-1 + (a : Int)).toNat = a - 1 := by rw [Int.add_comm]; exact Ar.tnS a
theorem Ar.d2 {a b c : Nat} (h : a < c) : a - 1 - (1 + b) < c := Nat.lt_of_le_of_lt (Nat.le_trans (Nat.sub_le _ _) (Nat.sub_le _ _)) h
theorem Ar.d3 {a b c : Nat} (h : a + (b + 1) < c) : a + 1 + b < c := by rw [Nat.add_assoc, Nat.add_comm 1]; exact h
theorem Ar.d4 {a b c : Nat} (h : a + (b + 1) = c) : a + 1 + b = c := by rw [Nat.add_assoc, Nat.add_comm 1]; exact h
theorem Ar.d5 {a b c : Nat} (h : a < c) (hb : b = c) : a + 1 + (b - (a + 1)) = b := Nat.add_sub_of_le (hb ▸ h)
theorem Ar.d6 {a b : Nat} (h : a < b) : a + 1 + (b - (a + 1)) = b := Nat.add_sub_of_le h
theorem Ar.e1 {a : Int} {b : Nat} (h : 0 < a ∧ a < b) : (a.toNat : Int) = a := Int.toNat_of_nonneg (Int.le_of_lt h.1)
theorem Ar.e2 {a : Int} {b : Nat} (h : 0 < a ∧ a < b) : 0 < (a.toNat : Int) ∧ (a.toNat : Int) < b := (Ar.e1 h).symm ▸ h
theorem Ar.ls {a b : Nat} (h : a < b) : a < b + 1 := Nat.lt_succ_of_lt h
theorem Ar.iL {a b : Nat} : a < b ↔ (a : Int) < b := Int.ofNat_lt.symm
theorem Ar.iE {a b : Nat} : a ≤ b ↔ (a : Int) ≤ b := Int.ofNat_le.symm
theorem Ar.iP {a : Nat} : 0 < (a : Int) ↔ 0 < a := Int.natCast_pos
theorem Ar.iZ {a : Nat} : (a : Int) = 0 ↔ a = 0 := Int.natCast_eq_zero
theorem Ar.i1 {a b : Nat} : 1 + (a : Int) < b ↔ 1 + a < b := Int.ofNat_lt (n := 1 + a) (m := b)
theorem Ar.e3 {b : Int} (h : 0 < b) : (b.toNat : Int) = b - 0 := (Int.toNat_of_nonneg (Int.le_of_lt h)).trans (Int.sub_zero b).symm
theorem Ar.sp {a : Nat} (h : 1 ≤ a) : a = a - 1 + 1 := (Nat.sub_add_cancel h).symm
theorem Ar.sp0 {a : Nat} (h : ¬a = 0) : a = a - 1 + 1 := Ar.sp (Ar.n0 h)
theorem Ar.spO {a : Nat} {p : Prop} (h : ¬(a = 0 ∨ p)) : a = a - 1 + 1 := Ar.sp0 fun q => h (.inl q)
theorem Ar.f1 {m k : Nat} {d : Int} (h1 : m = ((k : Int) + 1).toNat) (h2 : d < k ∧ -1 ≤ d) : (d + 1).toNat < m := h1 ▸ (Int.toNat_lt (Int.add_le_add_right h2.2 1)).mpr (Int.add_lt_add_right h2.1 1)
theorem Ar.f2 {m k : Nat} {d e : Int} (h1 : m = ((k : Int) + 1).toNat) (h2 : d < k ∧ -1 ≤ d) (h3 : e = d) : (e + 1).toNat < m := h3 ▸ Ar.f1 h1 h2
theorem Ar.sucE {i n a : Nat} (h : i < n) (ha : a = n) : a - i = a - (i + 1) + 1 := Ar.suc (ha ▸ h)
theorem Ar.f3 {a b : Nat} (h : b < a) : a = b + (a - b - 1 + 1) := by rw [Nat.sub_add_cancel (Nat.sub_pos_of_lt h), Nat.add_sub_of_le (Nat.le_of_lt h)]
theorem Ar.f4 {a b c : Nat} (h : a + (c + 1) = b) : a < b := Nat.lt_of_lt_of_eq (Nat.lt_add_of_pos_right (Nat.succ_pos c)) h
theorem Ar.f5 {a b c : Nat} (h : a < b - 1) (h2 : b < c) : a < min (b - 1) c := Nat.lt_min.mpr ⟨h, Nat.lt_of_lt_of_le h (Ar.c5 h2)⟩
theorem Ar.pos0 {a : Nat} {p : Bool} (h : (a == 0 || p) = false) : 1 ≤ a := match a, h with
  | 0, h => nomatch h
  | k + 1, _ => Nat.succ_pos k
theorem Ar.f6 {a : Nat} {p : Bool} (h : (a == 0 || p) = false) : (a : Int) - 1 = ((a - 1 : Nat) : Int) := Ar.cs (Ar.pos0 h)
theorem Ar.ltO {a b : Nat} (h : a ≤ b) (h2 : (a == 0 || a == b) = false) : a < b := Nat.lt_of_le_of_ne h fun q => by rw [q, beq_self_eq_true, Bool.or_true] at h2; exact nomatch h2
theorem Ar.f8 {a b : Nat} (h : a ≤ b) (h2 : (a == 0 || a == b) = false) : 0 ≤ (a : Int) - 1 ∧ (a : Int) - 1 < b := Ar.t2 (Ar.pos0 h2) (Ar.ltO h h2)
theorem Ar.f9 {a b c : Nat} (h : a ≤ b) (hb : b ≤ c) (h2 : (a == 0 || a == b) = false) : 0 ≤ (a : Int) - 1 ∧ (a : Int) - 1 < b ∧ b ≤ c := ⟨(Ar.f8 h h2).1, (Ar.f8 h h2).2, hb⟩
theorem Ar.le {a b c : Nat} (h : b = c) (h2 : a < c) : a < b := h ▸ h2
theorem Ar.mp {a : Nat} : min a (a - 1) = a - 1 := Nat.min_eq_right (Nat.sub_le a 1)
theorem Ar.mq {a b x : Nat} (h : x = b - 1) (h2 : a < x) : a < b := Nat.lt_of_lt_of_le (h ▸ h2) (Nat.sub_le b 1)
theorem Ar.e4 {a b : Nat} {p : Prop} (h : p ∧ (a : Int) < b) : a ≤ b := Nat.le_of_lt (Int.ofNat_lt.mp h.2)
theorem Ar.sc {a b : Nat} : a + (b + 1) - a = b + 1 := Nat.add_sub_cancel_left a (b + 1)
theorem Ar.nn {a b : Nat} (h : a < b) : ¬¬(a : Int) < b := fun q => q (Int.ofNat_lt.mpr h)
theorem Ar.c6 {e d a : Nat} (h : e = d) (h2 : a < ((d : Int) - 1).toNat) : 1 + (a : Int) < e := h ▸ Ar.c1 h2
theorem Ar.z1 {n : Nat} (h : n ≤ 2001) : -2 ^ 62 ≤ (n : Int) ∧ (n : Int) < 2 ^ 62 := ⟨Int.le_trans (by decide) (Int.natCast_nonneg n), Int.lt_of_le_of_lt (Int.ofNat_le.mpr h) (by decide)⟩
theorem Ar.z2 {n : Nat} (h : n ≤ 1000) : -2 ^ 62 ≤ (n : Int) ∧ (n : Int) < 2 ^ 62 := Ar.z1 (Nat.le_trans h (by decide))
theorem Ar.z3 {n : Nat} (h : n ≤ 1000) : -2 ^ 62 ≤ (n : Int) + 1 ∧ (n : Int) + 1 < 2 ^ 62 := Ar.z1 (n := n + 1) (Nat.le_trans (Nat.succ_le_succ h) (by decide))
theorem Ar.z4 {n : Nat} (h : n ≤ 1000) : ((-2 ^ 62 : Int) ≤ 1 ∧ (1 : Int) < 2 ^ 62) ∧ -2 ^ 62 ≤ (n : Int) ∧ (n : Int) < 2 ^ 62 := ⟨by decide, Ar.z2 h⟩
theorem Ar.z5 {a : Int} {b : Nat} (h : -1 ≤ a ∧ a ≤ 2000) (hb : b ≤ 1000) : (-2 ^ 62 ≤ ((a + 1).toNat : Int) ∧ ((a + 1).toNat : Int) < 2 ^ 62) ∧ -2 ^ 62 ≤ (b : Int) + 1 ∧ (b : Int) + 1 < 2 ^ 62 :=
  ⟨Ar.z1 (Int.toNat_le.mpr (Int.add_le_add_right h.2 1)), Ar.z3 hb⟩
theorem Ar.z6 {a b : Nat} (hb : b ≤ 1000) (h : a ≤ b + 1) : -2 ^ 62 ≤ (a : Int) - 1 ∧ (a : Int) - 1 < 2 ^ 62 := ⟨Int.le_trans (by decide) (Int.sub_le_sub_right (Int.natCast_nonneg a) 1), Int.lt_of_le_of_lt (Int.sub_le_self _ (by decide)) (Ar.z1 (Nat.le_trans h (Nat.le_trans (Nat.succ_le_succ hb) (by decide)))).2⟩
theorem Ar.y1 {a b c x : Nat} (h : b < c) (hc : c ≤ 1000) (ha : a = b) : a - x ≤ 1000 := Nat.le_trans (Nat.sub_le _ _) (ha ▸ Nat.le_trans (Nat.le_of_lt h) hc)
theorem Ar.y2 {a b : Nat} (h2 : b < a) : 0 < a := Nat.lt_of_le_of_lt (Nat.zero_le b) h2
theorem Ar.y3 {a b c : Nat} (h : a + b < c) : a + (b - 1) ≤ c := Nat.le_trans (Nat.add_le_add_left (Nat.sub_le b 1) a) (Nat.le_of_lt h)
theorem Ar.y4 {a b c : Nat} (h : 1 ≤ a) (h2 : c + a < b) : ¬a = 0 ∧ ¬a = b - c := ⟨Nat.ne_of_gt h, Nat.ne_of_lt (Nat.lt_sub_of_add_lt (Nat.add_comm c a ▸ h2))⟩
theorem Ar.y5 {a : Int} {b : Nat} (h : -1 ≤ a) : -2 ≤ min (a - 1) (b : Int) := Int.le_min.mpr ⟨Int.sub_le_sub_right h 1, Int.le_trans (by decide) (Int.natCast_nonneg b)⟩
theorem Ar.y6 {a b : Nat} (h : ¬b ≤ a) : a + 1 - b = 0 := Nat.sub_eq_zero_of_le (Nat.lt_of_not_le h)
theorem Ar.y7 {a b : Nat} (h : b ≤ a) : a + 1 - b = a - b + 1 := Nat.succ_sub h
theorem Ar.y8 {a b c : Nat} (h : b ≤ 900) (hc : c = b) (ha : a - 1 < c) : (a : Int) - 1 < 2 ^ 63 :=
  Int.lt_of_le_of_lt (Int.sub_le_sub_right (Int.ofNat_le.mpr (Nat.le_trans (Nat.le_of_pred_lt ha : a ≤ c) (hc ▸ h))) 1) (by decide)
theorem Ar.y9 {a b c : Nat} (h : a + 100 * (b + 1) < c) : a + 1 + 100 * b < c := Nat.lt_of_le_of_lt (by rw [Nat.mul_succ, Nat.add_assoc, Nat.add_comm 1]; exact Nat.add_le_add_left (Nat.add_le_add_left (by decide) _) a) h
theorem Ar.w1 {a : Int} {b : Nat} : (a + 1).toNat ≤ b ↔ a < b := Int.toNat_le
theorem Ar.w2 {a b : Nat} (h : a < ((b : Int) - 1).toNat) : (a : Int) + 1 < b := Int.add_comm 1 a ▸ Ar.c1 h
theorem Ar.w3 {a b : Nat} (h : a < ((b : Int) - 1).toNat) : (a : Int) < b := Int.lt_of_le_of_lt (Int.le_add_of_nonneg_right (by decide)) (Ar.w2 h)
theorem Ar.w4 {a : Int} {b : Nat} (h : 0 ≤ a ∧ a ≤ b) : a = (a.toNat : Int) := (Int.toNat_of_nonneg h.1).symm
theorem Ar.w5 {a : Int} (h : 0 ≤ a) : a = (a.toNat : Int) := (Int.toNat_of_nonneg h).symm
theorem Ar.w6 {a b c : Nat} {d : Int} {p : Prop} (h : c < b) (h2 : d < c ∧ p) (h3 : a < d.toNat) : a < b := Nat.lt_trans h3 (Nat.lt_of_le_of_lt (Int.toNat_le.mpr (Int.le_of_lt h2.1)) h)
theorem Ar.w7 {a b : Nat} (h : a ≤ b) : a ≤ b + 1 := Nat.le_succ_of_le h
theorem Ar.w8 {a : Nat} {b : Int} : a < b.toNat ↔ (a : Int) < b := Int.lt_toNat
theorem Ar.w9 {a : Nat} {b : Int} (h : (a : Int) < b - 1) : (a : Int) = min (b - 1) a := (Int.min_eq_right (Int.le_of_lt h)).symm
theorem Ar.w0 {b : Nat} {a : Int} (h : ¬(b : Int) < a - 1) : a - 1 = min (a - 1) (b : Int) := (Int.min_eq_left (Int.not_lt.mp h)).symm
theorem Ar.v1 {a b : Nat} (h : b = a + 1) : a < b := h ▸ Nat.lt_succ_self a
theorem Ar.v2 {a b : Nat} (h : a ≤ b) (h2 : b ≤ 900) : a + 1 ≤ 1000 := Nat.le_trans (Nat.succ_le_succ (Nat.le_trans h h2)) (by decide)
theorem Ar.v3i {a b c : Int} (h : a < c) (h2 : c ≤ b) : a < b := Int.lt_of_lt_of_le h h2
theorem Ar.v4i {a b c : Int} (h : a ≤ c) (h2 : c < b) : a < b := Int.lt_of_le_of_lt h h2
theorem Ar.v6i {a b c : Int} (h : a ≤ c) (h2 : c ≤ b) : a ≤ b := Int.le_trans h h2
theorem Ar.v6 {a b c : Nat} (h : a ≤ c) (h2 : c ≤ b) : a ≤ b := Nat.le_trans h h2
theorem Ar.v7 {a b : Nat} (h : a + 1 ≤ b) : a ≤ b - 1 := Nat.le_sub_of_add_le h
theorem Ar.u2 {a b c : Nat} (h : ¬b < c + a) : a ≤ b - c := Nat.le_sub_of_add_le (Nat.add_comm c a ▸ Nat.not_lt.mp h)
theorem Ar.u3 {a b c : Nat} (h : ¬a < b) (h2 : a < b + c) : a - b < c := Nat.sub_lt_left_of_lt_add (Nat.not_lt.mp h) h2
theorem Ar.u4 {a b c : Nat} (hb : b = c) (h : 1 ≤ a) (h2 : a ≤ c) : a - 1 < b := Nat.lt_of_lt_of_le (Nat.sub_lt h (by decide)) (hb ▸ h2)
theorem Ar.u5 {a b c : Nat} (hb : b = c) (h : decide (0 < (a : Int)) = true) (h2 : a ≤ c) : a - 1 < b := Ar.u4 hb (Int.natCast_pos.mp (of_decide_eq_true h)) h2
theorem Ar.u6 {a b c : Nat} (hb : b = c) (h : 0 < (a : Int)) (h2 : a ≤ c) : a - 1 < b := Ar.u4 hb (Int.natCast_pos.mp h) h2
theorem Ar.u7 {a b : Nat} (h : a < b - 1) : 1 + a < b := Nat.add_comm a 1 ▸ Ar.b4 h
theorem Ar.u8 {a b : Nat} (h2 : ¬a < b - 1) : ¬1 + a < b := fun q => h2 (Nat.lt_sub_of_add_lt (Nat.add_comm 1 a ▸ q))
theorem Ar.u9 {a : Nat} {p : Prop} (h : 0 < (a : Int) - 1 ∧ p) : a = a - 1 + 1 := Ar.sp (Int.natCast_pos.mp (Int.lt_of_lt_of_le h.1 (Int.sub_le_self _ (by decide))))
theorem Ar.x1 {a : Int} (h : 0 ≤ a) : (a + 1).toNat = a.toNat + 1 := Int.toNat_add h (by decide)
theorem Ar.x2 {a b c : Nat} (hb : b ≤ c) (h : (decide ((a : Int) ≤ 0) || decide ((b : Int) ≤ (a : Int))) = false) : 0 ≤ (a : Int) ∧ (a : Int) < b ∧ b ≤ c := Ar.t3 (Int.ofNat_lt.mp (Int.not_le.mp (of_decide_eq_false (Bool.or_eq_false_iff.mp h).2))) hb
theorem Ar.x3 {a b : Nat} (h : a < (( b : Int) + 1).toNat) : a ≤ b := Nat.le_of_lt_succ h
theorem Ar.x4 {a b : Nat} (h : a < b + 1) : a ≤ b := Nat.le_of_lt_succ h
theorem Ar.x5 {a b : Nat} (h : a ≤ 1000) : a - b ≤ 1000 := Nat.le_trans (Nat.sub_le a b) h
theorem Ar.x6 {a b : Nat} (h : b ≤ 1000) : min a b ≤ 1000 := Nat.le_trans (Nat.min_le_right a b) h
theorem Ar.x7 {a : Nat} (h : 0 < a) : a - 1 < a := Nat.sub_lt h (by decide)
theorem Ar.x9 {a : Int} {p : Prop} (h : 1 ≤ a ∧ p) : 0 ≤ a := Int.le_trans (by decide) h.1
theorem Ar.q1 {a : Nat} (h : 1 ≤ a) (h2 : ¬a = 1) : 1 ≤ a - 1 := Nat.le_sub_of_add_le (Nat.lt_of_le_of_ne h (Ne.symm h2))
theorem Ar.q2 {a b : Nat} (h : a < b + 1) (h2 : ¬a = b) : a < b := Nat.lt_of_le_of_ne (Nat.le_of_lt_succ h) h2
theorem Ar.q3 {a : Int} {b : Nat} (h : 0 ≤ a ∧ a < b) : a.toNat < b := (Int.toNat_lt h.1).mpr h.2
theorem Ar.q4 {a : Int} {b : Nat} {p : Prop} (h : a < b ∧ p) : (a + 1).toNat ≤ b := Int.toNat_le.mpr h.1
theorem Ar.q5 {a b : Nat} (h : b = a + 1) (h2 : a < 7) : 0 ≤ (a : Int) ∧ (a : Int) < b ∧ b ≤ 16777216 := Ar.t3 (Ar.v1 h) (h ▸ Nat.le_trans h2 (by decide))
theorem Ar.q6 {a b : Nat} (h : (a : Int) < b) : a + 1 ≤ b := Int.ofNat_lt.mp h
theorem Ar.q7 {a b c : Nat} (hb : b ≤ c) (h : a < b) (h0 : ((a : Int) == 0) = false) : 0 ≤ (a : Int) - 1 ∧ (a : Int) - 1 < b ∧ b ≤ c := Ar.t1 (match a, h0 with | 0, h0 => nomatch h0 | k + 1, _ => Nat.succ_pos k) h hb
theorem Ar.q8 {a b c : Nat} (h : a < c) (h2 : decide ((b : Int) < a) = true) : 0 ≤ (a : Int) - 1 - b ∧ (a : Int) - 1 - b < c := by
  have h3 := of_decide_eq_true h2
  exact ⟨Int.sub_nonneg_of_le (Int.le_sub_one_of_lt h3), Int.lt_of_le_of_lt (Int.le_trans (Int.sub_le_self _ (Int.natCast_nonneg b)) (Int.sub_le_self _ (by decide))) (Int.ofNat_lt.mpr h)⟩
theorem Ar.q9 {a b c d : Nat} (h : a < c) (hc : c ≤ d) (h2 : decide ((b : Int) < a) = true) : 0 ≤ (a : Int) - 1 - b ∧ (a : Int) - 1 - b < c ∧ c ≤ d := ⟨(Ar.q8 h h2).1, (Ar.q8 h h2).2, hc⟩
theorem Ar.r2 {a b : Nat} (h : b < a) : 0 < a - b := Nat.sub_pos_of_lt h
theorem Ar.r3 {a b : Int} (h : b < a) : ((a - b).toNat : Int) - ((0 : Nat) : Int) = a - b := (Int.sub_zero _).trans (Int.toNat_of_nonneg (Int.le_of_lt (Int.sub_pos_of_lt h)))
theorem Ar.r4 {a : Nat} {b : Int} (h : a < b.toNat) (h2 : b < 7) : a < 7 := Nat.lt_of_lt_of_le h (Int.toNat_le.mpr (Int.le_of_lt h2))
theorem Ar.r5 {a : Nat} : ((a + 1 : Nat) : Int) - 1 = a := Int.add_sub_cancel (a : Int) 1
theorem Ar.r7 {a b : Nat} (h : ¬b ≤ a) : a - b = 0 := Nat.sub_eq_zero_of_le (Nat.le_of_lt (Nat.lt_of_not_le h))
theorem Ar.r8 {a b : Nat} : a + b = ((a : Int) + b).toNat := rfl
theorem Ar.r9 {a b : Nat} (h : b ≤ 900) (h2 : a ≤ b + 1) : a ≤ 1000 := Nat.le_trans h2 (Nat.le_trans (Nat.succ_le_succ h) (by decide))
theorem Ar.k1 {a b : Nat} (h : a ≠ 0 ∧ ¬b ≤ a) : 1 ≤ a ∧ a < b := ⟨Nat.pos_of_ne_zero h.1, Nat.lt_of_not_le h.2⟩
theorem Ar.k2 {a b c : Nat} (hb : b ≤ c) (h : decide ((a : Int) < b) = true) : 0 ≤ (a : Int) ∧ (a : Int) < b ∧ b ≤ c := Ar.t3 (Int.ofNat_lt.mp (of_decide_eq_true h)) hb
theorem Ar.k3 {a b : Nat} : a + (b + 1) = a + 1 + b := (Nat.succ_add a b).symm
theorem Ar.k4 {a b : Nat} : a + 1 + b = a + (b + 1) := Nat.succ_add a b
theorem Ar.k5 {a b : Nat} : a + b + 1 = a + 1 + b := (Nat.succ_add a b).symm
theorem Ar.k6 {a b : Nat} : a + b + 1 = a + (b + 1) := rfl
theorem Ar.k7 {a : Nat} (h : a > 0) : a = a - 1 + 1 := Ar.sp h
theorem Ar.pI {a : Nat} (h : 0 ≤ (a : Int) - 1) : 1 ≤ a := Int.ofNat_le.mp (Int.le_of_sub_nonneg h)
theorem Ar.k8 {a : Nat} (h : 0 ≤ (a : Int) - 1) : ((a - 1 : Nat) : Int) - 1 = (a : Int) - 1 - 1 := by rw [Ar.cs (Ar.pI h)]
theorem Ar.k9 {a : Nat} (h : 0 ≤ (a : Int) - 1) : a = a - 1 + 1 := Ar.sp (Ar.pI h)
theorem Ar.k0 {a : Nat} (h : 1 ≤ (a : Int)) : a = a - 1 + 1 := Ar.sp (Int.ofNat_le.mp h)
theorem Ar.j1 {a : Nat} (h : a ≤ 2) : a ≤ 16777216 := Nat.le_trans h (by decide)
theorem Ar.j3 {a : Int} {b : Nat} (h : 0 ≤ a) (h2 : a.toNat < b) : a < b := (Int.toNat_lt h).mp h2
theorem Ar.j4 {a b : Nat} (h : b + 0 = a) : a ≤ b := Nat.le_of_eq h.symm
theorem Ar.j5 {a b c d : Nat} (h : a < d) (h2 : d ≤ c) : min a b ≤ c := Nat.le_trans (Nat.min_le_left a b) (Nat.le_trans (Nat.le_of_lt h) h2)
theorem Ar.j6 {a : Nat} (h : 1 ≤ a) : 0 < a := h
theorem Ar.j7 {a : Nat} (h : 1 ≤ a) : 0 ≤ (a : Int) - 1 := Int.sub_nonneg_of_le (Int.ofNat_le.mpr h)
theorem Ar.j8 {a b : Nat} (h : a < b) : ¬a = b := Nat.ne_of_lt h
theorem Ar.j9 {a b : Nat} (h : a + 1 ≤ b) : a ≤ b := Nat.le_of_lt h
theorem Ar.l1 {a b : Nat} (h : a ≤ b) (h2 : b ≤ 1000) : (a : Int) - 1 < 2 ^ 63 := Int.lt_of_le_of_lt (Int.sub_le_self _ (by decide)) (Int.lt_of_le_of_lt (Int.ofNat_le.mpr (Nat.le_trans h h2)) (by decide))
theorem Ar.l2 {a b c : Nat} (h : a < b) (h2 : b ≤ c) : a < min b c := Nat.lt_min.mpr ⟨h, Nat.lt_of_lt_of_le h h2⟩
theorem Ar.l3 {a : Int} (h : -1 ≤ a) (h2 : ¬0 ≤ a) : a = -1 := Int.le_antisymm (Int.le_sub_one_of_lt (Int.not_le.mp h2)) h
theorem Ar.l4 {a : Int} : a = a - 1 + 1 := (Int.sub_add_cancel a 1).symm
theorem Ar.l5 {a b : Nat} (h : b < a) : min a b = b := Nat.min_eq_right (Nat.le_of_lt h)
theorem Ar.l6 {a : Int} (h : a < 0) : ¬0 ≤ a := Int.not_le.mpr h
theorem Ar.l7 {a : Int} (h : 0 ≤ a) : ¬a < 0 := Int.not_lt.mpr h
theorem Ar.l8 {a : Nat} : 1 + (a : Int) = ((a + 1 : Nat) : Int) := Int.add_comm 1 a
theorem Ar.l9 {a : Int} (h : 0 ≤ a) : (a.toNat : Int) = a := Int.toNat_of_nonneg h
theorem Ar.n1 {a : Int} (h : a < 18) : a < 2 ^ 63 := Int.lt_trans h (by decide)
theorem Ar.n2 {a : Int} (h : a < 19) : a < 2 ^ 63 := Int.lt_trans h (by decide)
theorem Ar.n3 {a : Int} (h : a < 15) : a < 2 ^ 63 := Int.lt_trans h (by decide)
theorem Ar.n4 {a : Int} (h : a < 7) : a < 2 ^ 62 := Int.lt_trans h (by decide)
theorem Ar.n5 {a : Nat} (h : a ≤ 16777216) : (a : Int) < 2 ^ 63 := Int.lt_of_le_of_lt (Int.ofNat_le.mpr h) (by decide)
theorem Ar.n6 {a b : Nat} (h : a = b) (h2 : b < 7) : a ≤ 1000 := h ▸ Nat.le_trans (Nat.le_of_lt h2) (by decide)
theorem Ar.n9 {a : Nat} : 0 ≤ 97 + (a : Int) := Int.natCast_nonneg (97 + a)
theorem Ar.ah {a b : Int} (h : a ≤ b - 1) : a < b := Int.lt_of_le_sub_one h
theorem Ar.ai {a b : Int} (h : a < b) : a ≤ b - 1 := Int.le_sub_one_of_lt h
theorem Ar.aj {a b c : Int} (h : ¬b ≤ c) (h2 : a ≤ c + 1) : a ≤ b := Int.le_trans h2 (Int.not_le.mp h)
theorem Ar.ak {a b c : Int} (h : a ≤ c) (h2 : c + 1 < b) : a < b := Int.lt_trans (Int.lt_add_one_of_le h) h2
theorem Ar.al {a b : Nat} (h : a ≤ b) (h2 : b ≤ 900) : a ≤ 16777216 := Nat.le_trans h (Nat.le_trans h2 (by decide))
theorem Ar.am {a b : Nat} (h : a ≤ b) (h2 : b ≤ 900) : a + 1 ≤ 16777216 := Nat.le_trans (Ar.v2 h h2) (by decide)
theorem Ar.an {a b c : Nat} (h : a = c + 2) (h1 : c ≤ b) (h2 : b ≤ 900) : a ≤ 16777216 := h ▸ Nat.le_trans (Nat.add_le_add_right (Nat.le_trans h1 h2) 2) (by decide)
theorem Ar.ao {a b c : Nat} (h : a = c + 2) (h1 : c ≤ b) (h2 : b ≤ 900) : a ≤ 1000 := h ▸ Nat.le_trans (Nat.add_le_add_right (Nat.le_trans h1 h2) 2) (by decide)
theorem Ar.ap {a b c k : Nat} (h : a = c + 2) (h1 : c ≤ b) (h2 : b ≤ 900) : a - k ≤ 1000 := Nat.le_trans (Nat.sub_le a k) (Ar.ao h h1 h2)
theorem Ar.aq {a : Nat} (h : a ≤ 7) : ((-2 ^ 62 : Int) ≤ 1 ∧ (1 : Int) < 2 ^ 62) ∧ -2 ^ 62 ≤ (a : Int) ∧ (a : Int) < 2 ^ 62 := Ar.z4 (Nat.le_trans h (by decide))
theorem Ar.ar {a b c : Nat} (h : b = c) (h2 : a < c) : (a : Int) < b := Int.ofNat_lt.mpr (h ▸ h2)
theorem Ar.aT {a b : Nat} (h : ¬(b : Int) < a) : a ≤ b := Int.ofNat_le.mp (Int.not_lt.mp h)
end Uni
namespace Uni
theorem L1 {α : Type} {l : List α} (h : l.length = 1) : ∃ a, l = [a] := List.length_eq_one_iff.mp h
theorem L2 {α : Type} {l : List α} (h : l.length = 2) : ∃ a b, l = [a, b] := by
  cases l with
  | nil => cases h
  | cons a l => obtain ⟨b, rfl⟩ := L1 (Nat.succ.inj h); exact ⟨a, b, rfl⟩
theorem L3 {α : Type} {l : List α} (h : l.length = 3) : ∃ a b c, l = [a, b, c] := by
  cases l with
  | nil => cases h
  | cons a l => obtain ⟨b, c, rfl⟩ := L2 (Nat.succ.inj h); exact ⟨a, b, c, rfl⟩
theorem L4 {α : Type} {l : List α} (h : l.length = 4) : ∃ a b c d, l = [a, b, c, d] := by
  cases l with
  | nil => cases h
  | cons a l => obtain ⟨b, c, d, rfl⟩ := L3 (Nat.succ.inj h); exact ⟨a, b, c, d, rfl⟩
theorem L5 {α : Type} {l : List α} (h : l.length = 5) : ∃ a b c d e, l = [a, b, c, d, e] := by
  cases l with
  | nil => cases h
  | cons a l => obtain ⟨b, c, d, e, rfl⟩ := L4 (Nat.succ.inj h); exact ⟨a, b, c, d, e, rfl⟩

inductive D where
  | none
  | bool (b : Bool)
  | int (i : Int)
  | str (s : Str)
  | any
  | own (a : Addr)
  | fn (a : Addr)
  | tup (l : List D)
  | lst (l : List D)
  | dct (es : List (Str × D))
  | inst (c : Addr) (fs : List (Str × D))
  | meth (f : Addr) (d : D)
  | lam (e : Expr) (sc : Scope) (ps : List Str) (x : Str) (d : D)

noncomputable abbrev KK (w : World) : Frag := UniH.KT w.params
noncomputable abbrev MM (w : World) : Model := model PySem.Challenge.rw_nt0055_01.row.prog w

noncomputable abbrev lstO (vs : Array Value) (n : Nat) : Obj := { cls := .type "list", dict := none, data := .seq vs n, slots := #[] }
noncomputable abbrev tupO (vs : Array Value) (n : Nat) : Obj := { cls := .type "tuple", dict := none, data := .seq vs n, slots := #[] }
noncomputable abbrev dctO (es : Array DictEntry) (n : Nat) : Obj := { cls := .type "dict", dict := none, data := .dict es n, slots := #[] }

structure LamAt (h : Heap) (Z : List Addr) (a : Addr) (e : Expr) (sc : Scope) (ps : List Str) (x : Str) (c : Addr) : Prop where
  ex : ∃ o fd, h.get? a = some o ∧ o.data = .func fd ∧ fd.body = .expr e ∧ fd.scope = sc ∧ fd.closure = [(x, c)] ∧ fd.globals = mainGlobals ∧ fd.builtins = builtinsNs ∧
    (∀ vs : List Value, vs.length = ps.length → bindArgs fd ⟨vs, []⟩ = pure (ps.zip vs)) ∧
    ∃ cc oc vs t, fd.code = .ref cc ∧ cc ∉ Z ∧ h.get? cc = some oc ∧ oc.data = .fields vs ∧ vs[1]? = some (.str fd.qualname t)

mutual
noncomputable def Rd (w : World) (h : Heap) (Z : List Addr) : D → Value → Prop
  | .none, v => v = .none
  | .bool b, v => v = .bool b
  | .int i, v => ∃ t, v = .int i t
  | .str s, v => ∃ t, v = .str s t
  | .any, v => handedIn v = true
  | .own a, v => v = .ref a
  | .fn a, v => v = .ref a
  | .tup l, v => ∃ a vs n, v = .ref a ∧ a ∉ Z ∧ h.get? a = some (tupO vs n) ∧ Rds w h Z l vs.toList
  | .lst l, v => ∃ a vs n, v = .ref a ∧ a ∉ Z ∧ h.get? a = some (lstO vs n) ∧ Rds w h Z l vs.toList
  | .dct es, v => ∃ a vs n, v = .ref a ∧ a ∉ Z ∧ h.get? a = some (dctO vs n) ∧ Rde w h Z es vs.toList ∧ (a == sysModules) = false
  | .inst c fs, v => ∃ a dx vs n, v = .ref a ∧ a ∉ Z ∧ dx ∉ Z ∧ h.get? a = some (instObj c dx) ∧ h.get? dx = some (dctO vs n) ∧ Rde w h Z fs vs.toList
  | .meth f d, v => ∃ a self, v = .ref a ∧ a ∉ Z ∧ h.get? a = some (methodObj (.ref f) self) ∧ Rd w h Z d self
  | .lam e sc ps x d, v => ∃ a c u, v = .ref a ∧ a ∉ Z ∧ c ∉ Z ∧ LamAt h Z a e sc ps x c ∧ h.IsCell c (some u) ∧ Rd w h Z d u
noncomputable def Rds (w : World) (h : Heap) (Z : List Addr) : List D → List Value → Prop
  | [], vs => vs = []
  | d :: ds, vs => ∃ v r, vs = v :: r ∧ Rd w h Z d v ∧ Rds w h Z ds r
noncomputable def Rde (w : World) (h : Heap) (Z : List Addr) : List (Str × D) → List DictEntry → Prop
  | [], es => es = []
  | p :: ps, es => ∃ e r t, es = e :: r ∧ e.key = .str p.1 t ∧ e.hash = PyData.keyHash w.params p.1 ∧ Rd w h Z p.2 e.val ∧ Rde w h Z ps r
end

noncomputable def ExtZ (Z : List Addr) (h h' : Heap) : Prop := ∀ b o, b ∉ Z → h.get? b = some o → h'.get? b = some o
theorem ExtZ.of_keeps {Z : List Addr} {h h' : Heap} (k : ∀ b o, h.get? b = some o → h'.get? b = some o) : ExtZ Z h h' := fun b o _ e => k b o e

theorem LamAt.mono {h h' : Heap} {Z Z' : List Addr} {a e sc ps x c} (L : LamAt h Z a e sc ps x c) (ha : a ∉ Z) (k : ExtZ Z h h') (z : ∀ b, b ∈ Z' → b ∈ Z) : LamAt h' Z' a e sc ps x c := by
  obtain ⟨o, fd, h1, h2, h3, h4, h5, h6, h7, h8, cc, oc, vs, t, h15, h16, h17, h18, h19⟩ := L.ex
  exact ⟨o, fd, k _ _ ha h1, h2, h3, h4, h5, h6, h7, h8, cc, oc, vs, t, h15, fun q => h16 (z _ q), k _ _ h16 h17, h18, h19⟩
theorem isCell_ext {h h' : Heap} {Z : List Addr} {c : Addr} {v : Option Value} (x : h.IsCell c v) (hc : c ∉ Z) (k : ExtZ Z h h') : h'.IsCell c v := by
  obtain ⟨o, ho, hd⟩ := x
  exact ⟨o, k _ _ hc ho, hd⟩

mutual
theorem Rd.mono {w : World} {h h' : Heap} {Z Z' : List Addr} (k : ExtZ Z h h') (z : ∀ b, b ∈ Z' → b ∈ Z) : ∀ (d : D) (v : Value), Rd w h Z d v → Rd w h' Z' d v
  | .none, _, r => r
  | .bool _, _, r => r
  | .int _, _, r => r
  | .str _, _, r => r
  | .any, _, r => r
  | .own _, _, r => r
  | .fn _, _, r => r
  | .tup l, v, r => by
    obtain ⟨a, vs, n, h1, h2, h3, h4⟩ := r
    exact ⟨a, vs, n, h1, fun q => h2 (z _ q), k _ _ h2 h3, Rds.mono k z l _ h4⟩
  | .lst l, v, r => by
    obtain ⟨a, vs, n, h1, h2, h3, h4⟩ := r
    exact ⟨a, vs, n, h1, fun q => h2 (z _ q), k _ _ h2 h3, Rds.mono k z l _ h4⟩
  | .dct l, v, r => by
    obtain ⟨a, vs, n, h1, h2, h3, h4, h5⟩ := r
    exact ⟨a, vs, n, h1, fun q => h2 (z _ q), k _ _ h2 h3, Rde.mono k z l _ h4, h5⟩
  | .inst c l, v, r => by
    obtain ⟨a, dx, vs, n, h1, h2, h3, h4, h5, h6⟩ := r
    exact ⟨a, dx, vs, n, h1, fun q => h2 (z _ q), fun q => h3 (z _ q), k _ _ h2 h4, k _ _ h3 h5, Rde.mono k z l _ h6⟩
  | .meth f d, v, r => by
    obtain ⟨a, u, h1, h2, h3, h4⟩ := r
    exact ⟨a, u, h1, fun q => h2 (z _ q), k _ _ h2 h3, Rd.mono k z d _ h4⟩
  | .lam e sc ps x d, v, r => by
    obtain ⟨a, c, u, h1, h2, h3, h4, h5, h6⟩ := r
    exact ⟨a, c, u, h1, fun q => h2 (z _ q), fun q => h3 (z _ q), h4.mono h2 k z, isCell_ext h5 h3 k, Rd.mono k z d _ h6⟩
theorem Rds.mono {w : World} {h h' : Heap} {Z Z' : List Addr} (k : ExtZ Z h h') (z : ∀ b, b ∈ Z' → b ∈ Z) : ∀ (d : List D) (v : List Value), Rds w h Z d v → Rds w h' Z' d v
  | [], _, r => r
  | d :: ds, vs, r => by
    obtain ⟨v, r', h1, h2, h3⟩ := r
    exact ⟨v, r', h1, Rd.mono k z d _ h2, Rds.mono k z ds _ h3⟩
theorem Rde.mono {w : World} {h h' : Heap} {Z Z' : List Addr} (k : ExtZ Z h h') (z : ∀ b, b ∈ Z' → b ∈ Z) : ∀ (d : List (Str × D)) (v : List DictEntry), Rde w h Z d v → Rde w h' Z' d v
  | [], _, r => r
  | p :: ps, es, r => by
    obtain ⟨e, r', t, h1, h2, h2', h3, h4⟩ := r
    exact ⟨e, r', t, h1, h2, h2', Rd.mono k z p.2 _ h3, Rde.mono k z ps _ h4⟩
end

end Uni
namespace Uni

structure Wd (w : World) (h : Heap) : Prop where
  k : (KK w).In h
  g : ∃ mg, h.Ns mainGlobals mg
  b : ∃ mb, h.Ns builtinsNs mb ∧ ∀ x : Str, x ≠ "__name__" → mb x = bootBuiltins x
  lim : h.NoLimit
theorem Wd.keeps {w : World} {h h' : Heap} (x : Wd w h) (k : ∀ b o, h.get? b = some o → h'.get? b = some o) : Wd w h' :=
  ⟨x.k.keeps k, let ⟨mg, e⟩ := x.g; ⟨mg, e.keeps k⟩, let ⟨mb, e, f⟩ := x.b; ⟨mb, e.keeps k, f⟩, x.lim.keeps k⟩

noncomputable def ZOk (w : World) (Z : List Addr) (h : Heap) : Prop := ∀ z ∈ Z, (KK w).lookup z = none ∧ ∃ o, h.get? z = some o
theorem ZOk.keeps {w : World} {Z : List Addr} {h h' : Heap} (x : ZOk w Z h) (k : ∀ b o, h.get? b = some o → h'.get? b = some o) : ZOk w Z h' := fun z hz => let ⟨a, o, e⟩ := x z hz; ⟨a, o, k _ _ e⟩
theorem ZOk.fresh {w : World} {Z : List Addr} {h : Heap} (x : ZOk w Z h) : h.objs.size ∉ Z := fun q => let ⟨_, _, e⟩ := x _ q; Nat.lt_irrefl _ (Heap.lt_size e)

structure AOk (n : Nat) (A : Around) : Prop where
  hd : A.handled = none
  dp : A.depth + n < recursionLimit
  un : A.units + 100 * n < cLine
theorem AOk.le {n m : Nat} {A : Around} (x : AOk n A) (h : m ≤ n) : AOk m A := ⟨x.hd, by have := x.dp; lia, by have := x.un; lia⟩

noncomputable abbrev Rho := Str → Option D
noncomputable def rset (r : Rho) (x : Str) (d : D) : Rho := fun y => if y = x then some d else r y

structure FIe (w : World) (env : Env) (Z : List Addr) (r : Rho) (h : Heap) : Prop where
  wd : Wd w h
  z : ZOk w Z h
  ns : ∃ m, h.Ns env.locals m ∧ ∀ x d, r x = some d → env.kindOf x = some .local → ∃ v, m x = some v ∧ Rd w h Z d v
  cl : ∀ x d, r x = some d → env.kindOf x = some .cell ∨ env.kindOf x = some .free → ∃ c v, env.cells.lookup x = some c ∧ h.IsCell c (some v) ∧ Rd w h Z d v
  kd : env.scope.kind = .function
  gl : env.globals = mainGlobals
  bi : env.builtins = builtinsNs

theorem FIe.keeps {w : World} {env : Env} {Z : List Addr} {r : Rho} {h h' : Heap} (F : FIe w env Z r h) (k : ∀ b o, h.get? b = some o → h'.get? b = some o) : FIe w env Z r h' where
  wd := F.wd.keeps k
  z := F.z.keeps k
  ns := by
    obtain ⟨m, hn, hm⟩ := F.ns
    exact ⟨m, hn.keeps k, fun x d e q => let ⟨v, e1, e2⟩ := hm x d e q; ⟨v, e1, e2.mono (.of_keeps k) fun _ q => q⟩⟩
  cl := fun x d e q => let ⟨c, v, e1, e2, e3⟩ := F.cl x d e q; ⟨c, v, e1, e2.keeps k, e3.mono (.of_keeps k) fun _ q => q⟩
  kd := F.kd
  gl := F.gl
  bi := F.bi

structure Kp (s s' : Shared) : Prop where
  eq : s' = { s with heap := s'.heap, toks := s'.toks }
  k : ∀ b o, s.heap.get? b = some o → s'.heap.get? b = some o
theorem Kp.refl (s : Shared) : Kp s s := ⟨rfl, fun _ _ e => e⟩
theorem Kp.trans {s s' s'' : Shared} (x : Kp s s') (y : Kp s' s'') : Kp s s'' := ⟨by rw [y.eq, x.eq], fun b o e => y.k b o (x.k b o e)⟩
theorem Kp.tok {s : Shared} (t : Nat) : Kp s { s with toks := t } := ⟨rfl, fun _ _ e => e⟩
theorem Kp.mk' {s : Shared} {h : Heap} {t : Nat} (k : ∀ b o, s.heap.get? b = some o → h.get? b = some o) : Kp s { s with heap := h, toks := t } := ⟨rfl, k⟩
theorem Kp.push {s : Shared} (o : Obj) (t : Nat) : Kp s { s with heap := s.heap.push o, toks := t } := ⟨rfl, fun _ _ e => Heap.get?_push_of_some _ e⟩
theorem Kp.keeps {s s' : Shared} (x : Kp s s') : Keeps s s' := ⟨s'.heap, s'.toks, x.eq, x.k⟩
theorem Kp.of {s s' : Shared} (x : Keeps s s') : Kp s s' := by
  obtain ⟨h, t, rfl, k⟩ := x
  exact ⟨rfl, k⟩

noncomputable abbrev NoE : Value → Shared → Prop := fun _ _ => False

noncomputable def Y (w : World) (n : Nat) (env : Env) (r : Rho) (t : Sem Value) (d : D) : Prop :=
  ∀ A s Z, AOk n A → FIe w env Z r s.heap → wpAny (MM w) A t (fun v s' => Kp s s' ∧ Rd w s'.heap Z d v) NoE s
noncomputable def YB (w : World) (n : Nat) (env : Env) (r : Rho) (t : Sem Bool) (b : Bool) : Prop :=
  ∀ A s Z, AOk n A → FIe w env Z r s.heap → wpAny (MM w) A t (fun v s' => Kp s s' ∧ v = b) NoE s
noncomputable def Ys (w : World) (n : Nat) (env : Env) (r : Rho) (t : Sem (List Value)) (ds : List D) : Prop :=
  ∀ A s Z, AOk n A → FIe w env Z r s.heap → wpAny (MM w) A t (fun v s' => Kp s s' ∧ Rds w s'.heap Z ds v) NoE s
noncomputable def OpOK (w : World) (n : Nat) (t : List Value → Sem Value) (ds : List D) (d : D) : Prop :=
  ∀ A s Z vs, AOk n A → Wd w s.heap → ZOk w Z s.heap → Rds w s.heap Z ds vs → wpAny (MM w) A (t vs) (fun v s' => Kp s s' ∧ Rd w s'.heap Z d v) NoE s
noncomputable abbrev AnsIs (w : World) (s : Shared) (Z : List Addr) (d : D) : Result → Shared → Prop := fun r s' => ∃ v, r = .ok (.ret v) ∧ Kp s s' ∧ Rd w s'.heap Z d v
noncomputable def CallOK (w : World) (n : Nat) (f : Addr) (ds : List D) (d : D) : Prop :=
  ∀ A s Z vs, AOk n A → Wd w s.heap → ZOk w Z s.heap → Rds w s.heap Z ds vs → codeAny (MM w) A (.call (.ref f) ⟨vs, []⟩) (AnsIs w s Z d) s
theorem CallOK.run {w : World} {n : Nat} {f : Addr} {ds : List D} {d : D} (h : CallOK w n f ds d) : OpOK w n (fun vs => call (.ref f) vs []) ds d := fun A s Z vs ao W hz rd =>
  wpAny_call (codeAny_mono (h A s Z vs ao W hz rd) fun _ _ ⟨v, e, k, r⟩ => by subst e; exact ⟨k, r⟩)

section
variable {w : World} {n : Nat} {env : Env} {r : Rho}

theorem Y.bind {t : Sem Value} {g : Value → Sem Value} {d d' : D} (h : Y w n env r t d)
    (hg : ∀ A s Z v, AOk n A → FIe w env Z r s.heap → Rd w s.heap Z d v → wpAny (MM w) A (g v) (fun v s' => Kp s s' ∧ Rd w s'.heap Z d' v) NoE s) : Y w n env r (t >>= g) d' :=
  fun A s Z a F => wpAny_bind (wpAny_mono (h A s Z a F) (fun v s' ⟨k, rd⟩ => wpAny_mono (hg A s' Z v a (F.keeps k.k) rd) (fun _ _ ⟨k', rd'⟩ => ⟨k.trans k', rd'⟩) fun _ _ e => e) fun _ _ e => e)

theorem Y.none {k pos} : Y w n env r (eval (.Constant .none k pos) env) .none := fun _ s _ _ _ => wpAny_Constant_none ⟨Kp.refl s, rfl⟩
theorem Y.bool {b k pos} : Y w n env r (eval (.Constant (.bool b) k pos) env) (.bool b) := fun _ s _ _ _ => wpAny_Constant_bool ⟨Kp.refl s, rfl⟩
theorem Y.int {i k pos} : Y w n env r (eval (.Constant (.int i) k pos) env) (.int i) := fun _ _ _ _ _ => wpAny_Constant_int ⟨Kp.tok _, _, rfl⟩
theorem Y.str {x k pos} : Y w n env r (eval (.Constant (.str x) k pos) env) (.str x) := fun _ _ _ _ _ => wpAny_Constant_str ⟨Kp.tok _, _, rfl⟩

theorem Y.loc {x pos d} (e : r x = some d) (hx : env.kindOf x = some .local) (hd : (x == ("__debug__" : Str)) = false) : Y w n env r (eval (.Name x pos) env) d := fun A s Z _ F => by
  obtain ⟨m, hn, hm⟩ := F.ns
  obtain ⟨v, e1, e2⟩ := hm x d e hx
  exact wpAny_Name (wpAny_loadName_local F.kd hx hn e1 ⟨Kp.refl s, e2⟩) hd
theorem Y.cell {x pos d} (e : r x = some d) (hx : env.kindOf x = some .cell) (hd : (x == ("__debug__" : Str)) = false) : Y w n env r (eval (.Name x pos) env) d := fun A s Z _ F => by
  obtain ⟨c, v, e1, e2, e3⟩ := F.cl x d e (.inl hx)
  exact wpAny_Name (wpAny_loadName_cell F.kd hx e1 e2 ⟨Kp.refl s, e3⟩) hd
theorem Y.free {x pos d} (e : r x = some d) (hx : env.kindOf x = some .free) (hd : (x == ("__debug__" : Str)) = false) (hn : (x == ("__classdict__" : Str)) = false) : Y w n env r (eval (.Name x pos) env) d := fun A s Z _ F => by
  obtain ⟨c, v, e1, e2, e3⟩ := F.cl x d e (.inr hx)
  exact wpAny_Name (wpAny_loadName_free F.kd hx e1 e2 ⟨Kp.refl s, e3⟩ hn) hd

noncomputable def Stat (w : World) (d : D) (v : Value) : Prop := ∀ h Z, Wd w h → ZOk w Z h → Rd w h Z d v
theorem Y.glob {x pos d v} (e : nsIn (KK w) mainGlobals x = some (some v)) (st : Stat w d v) (hx : env.kindOf x = some .globalImplicit) (hd : (x == ("__debug__" : Str)) = false) : Y w n env r (eval (.Name x pos) env) d := fun A s Z _ F => by
  obtain ⟨mg, G⟩ := F.wd.g
  refine Name_function_global F.kd hx (loadGlobal_global (mg := mg) (by rw [F.gl]; exact G) (mg_of F.wd.k G e) ⟨Kp.refl s, st _ _ F.wd F.z⟩) hd

theorem YB.of {e : Expr} {b : Bool} (h : Y w n env r (eval e env) (.bool b)) (hs : isTrue e env (eval e env) = (do let v ← eval e env; standAt e.pos; holding [v] (truthy v))) : YB w n env r (isTrue e env (eval e env)) b := fun A s Z a F => by
  rw [hs]
  refine wpAny_bind (wpAny_mono (h A s Z a F) (fun v s' ⟨k, rd⟩ => ?_) fun _ _ e => e)
  cases rd
  exact wpAny_bind (wpAny_standAt (wpAny_holding (wpAny_truthy_bool ⟨k, rfl⟩)))
theorem YB.not {x : Expr} {pos : Pos} {whole : Sem Value} {b : Bool} (h : YB w n env r (isTrue x env (eval x env)) b) : YB w n env r (isTrue (.UnaryOp .Not x pos) env whole) (!b) := fun A s Z a F => by
  refine wpAny_isTrue_Not (wpAny_mono (h A s Z a F) (fun v s' ⟨k, e⟩ => ⟨k, by rw [e]⟩) fun _ _ e => e)

theorem YB.boolop {op : BoolOp} {xs : List Expr} {pos : Pos} {whole : Sem Value} {b : Bool} (h : YB w n env r (allTrue op xs env) b) : YB w n env r (isTrue (.BoolOp op xs pos) env whole) b := h
theorem YB.and_nil : YB w n env r (allTrue .And [] env) true := fun _ s _ _ _ => wpAny_allTrue_And_nil ⟨Kp.refl s, rfl⟩
theorem YB.or_nil : YB w n env r (allTrue .Or [] env) false := fun _ s _ _ _ => wpAny_allTrue_Or_nil ⟨Kp.refl s, rfl⟩
theorem YB.and_cons {x : Expr} {rest : List Expr} {a b : Bool} (h : YB w n env r (isTrue x env (eval x env)) a) (h2 : a = true → YB w n env r (allTrue .And rest env) b) : YB w n env r (allTrue .And (x :: rest) env) (a && b) := fun A s Z ao F => by
  show wpAny _ _ (isTrue x env (eval x env) >>= _) _ _ s
  refine wpAny_bind (wpAny_mono (h A s Z ao F) (fun v s' ⟨k, e⟩ => ?_) fun _ _ e => e)
  subst e
  cases v with
  | false => exact wpAny_pure ⟨k, rfl⟩
  | true => exact wpAny_mono (h2 rfl A s' Z ao (F.keeps k.k)) (fun v s'' ⟨k', e⟩ => ⟨k.trans k', by rw [e]; rfl⟩) fun _ _ e => e
theorem YB.or_cons {x : Expr} {rest : List Expr} {a b : Bool} (h : YB w n env r (isTrue x env (eval x env)) a) (h2 : a = false → YB w n env r (allTrue .Or rest env) b) : YB w n env r (allTrue .Or (x :: rest) env) (a || b) := fun A s Z ao F => by
  show wpAny _ _ (isTrue x env (eval x env) >>= _) _ _ s
  refine wpAny_bind (wpAny_mono (h A s Z ao F) (fun v s' ⟨k, e⟩ => ?_) fun _ _ e => e)
  subst e
  cases v with
  | true => exact wpAny_pure ⟨k, rfl⟩
  | false => exact wpAny_mono (h2 rfl A s' Z ao (F.keeps k.k)) (fun v s'' ⟨k', e⟩ => ⟨k.trans k', by rw [e]; rfl⟩) fun _ _ e => e

theorem Y.bo_last {pos : Pos} {op : BoolOp} {x : Expr} {b : Bool} (h : Y w n env r (eval x env) (.bool b)) : Y w n env r (boolOp pos op (evalEach [x] env)) (.bool b) := h
theorem Y.and_cons {pos : Pos} {x y : Expr} {rest : List Expr} {a b : Bool} (h : Y w n env r (eval x env) (.bool a)) (h2 : a = true → Y w n env r (boolOp pos .And (evalEach (y :: rest) env)) (.bool b)) :
    Y w n env r (boolOp pos .And (evalEach (x :: y :: rest) env)) (.bool (a && b)) := fun A s Z ao F => by
  show wpAny _ _ (eval x env >>= fun v => do standAt pos; let t ← holding [v] (truthy v); match BoolOp.And, t with | .And, false | .Or, true => pure v | _, _ => boolOp pos .And (evalEach (y :: rest) env)) _ _ s
  refine wpAny_bind (wpAny_mono (h A s Z ao F) (fun v s' ⟨k, e⟩ => ?_) fun _ _ e => e)
  cases e
  refine wpAny_bind (wpAny_standAt (wpAny_bind (wpAny_holding (wpAny_truthy_bool ?_))))
  cases a with
  | false => exact wpAny_pure ⟨k, rfl⟩
  | true => exact wpAny_mono (h2 rfl A s' Z ao (F.keeps k.k)) (fun v s'' ⟨k', e⟩ => ⟨k.trans k', by simpa using e⟩) fun _ _ e => e
theorem Y.or_cons {pos : Pos} {x y : Expr} {rest : List Expr} {a b : Bool} (h : Y w n env r (eval x env) (.bool a)) (h2 : a = false → Y w n env r (boolOp pos .Or (evalEach (y :: rest) env)) (.bool b)) :
    Y w n env r (boolOp pos .Or (evalEach (x :: y :: rest) env)) (.bool (a || b)) := fun A s Z ao F => by
  show wpAny _ _ (eval x env >>= fun v => do standAt pos; let t ← holding [v] (truthy v); match BoolOp.Or, t with | .And, false | .Or, true => pure v | _, _ => boolOp pos .Or (evalEach (y :: rest) env)) _ _ s
  refine wpAny_bind (wpAny_mono (h A s Z ao F) (fun v s' ⟨k, e⟩ => ?_) fun _ _ e => e)
  cases e
  refine wpAny_bind (wpAny_standAt (wpAny_bind (wpAny_holding (wpAny_truthy_bool ?_))))
  cases a with
  | true => exact wpAny_pure ⟨k, rfl⟩
  | false => exact wpAny_mono (h2 rfl A s' Z ao (F.keeps k.k)) (fun v s'' ⟨k', e⟩ => ⟨k.trans k', by simpa using e⟩) fun _ _ e => e
theorem Y.boolop {op : BoolOp} {xs : List Expr} {pos : Pos} {d : D} (h : Y w n env r (boolOp pos op (evalEach xs env)) d) : Y w n env r (eval (.BoolOp op xs pos) env) d := h

theorem Y.not {x : Expr} {pos : Pos} {b : Bool} (h : Y w n env r (eval x env) (.bool b)) : Y w n env r (eval (.UnaryOp .Not x pos) env) (.bool (!b)) := fun A s Z ao F =>
  wpAny_UnaryOp (wpAny_mono (h A s Z ao F) (fun v s' ⟨k, e⟩ => by cases e; exact not_value (wpAny_truthy_bool ⟨k, rfl⟩)) fun _ _ e => e)

theorem Y.ifexp {t x y : Expr} {pos : Pos} {b : Bool} {d : D} (h : YB w n env r (isTrue t env (eval t env)) b) (h1 : b = true → Y w n env r (eval x env) d) (h2 : b = false → Y w n env r (eval y env) d) :
    Y w n env r (eval (.IfExp t x y pos) env) d := fun A s Z ao F => by
  show wpAny _ _ (isTrue t env (eval t env) >>= _) _ _ s
  refine wpAny_bind (wpAny_mono (h A s Z ao F) (fun v s' ⟨k, e⟩ => ?_) fun _ _ e => e)
  subst e
  cases v with
  | true => exact wpAny_mono (h1 rfl A s' Z ao (F.keeps k.k)) (fun v s'' ⟨k', e⟩ => ⟨k.trans k', e⟩) fun _ _ e => e
  | false => exact wpAny_mono (h2 rfl A s' Z ao (F.keeps k.k)) (fun v s'' ⟨k', e⟩ => ⟨k.trans k', e⟩) fun _ _ e => e

theorem Rds.one {h : Heap} {Z : List Addr} {a : D} {v : Value} (x : Rd w h Z a v) : Rds w h Z [a] [v] := ⟨v, [], rfl, x, rfl⟩
theorem Rds.two {h : Heap} {Z : List Addr} {a b : D} {v u : Value} (x : Rd w h Z a v) (y : Rd w h Z b u) : Rds w h Z [a, b] [v, u] := ⟨v, [u], rfl, x, Rds.one y⟩
theorem Rds.two_of {h : Heap} {Z : List Addr} {a b : D} {vs : List Value} (x : Rds w h Z [a, b] vs) : ∃ v u, vs = [v, u] ∧ Rd w h Z a v ∧ Rd w h Z b u := by
  obtain ⟨v, r', rfl, h1, u, r'', rfl, h2, rfl⟩ := x
  exact ⟨v, u, rfl, h1, h2⟩
theorem Rds.one_of {h : Heap} {Z : List Addr} {a : D} {vs : List Value} (x : Rds w h Z [a] vs) : ∃ v, vs = [v] ∧ Rd w h Z a v := by
  obtain ⟨v, r', rfl, h1, rfl⟩ := x
  exact ⟨v, rfl, h1⟩

noncomputable def CmpOK (w : World) (n : Nat) (op : CmpOp) (a b : D) (c : Bool) : Prop := ∀ A s Z x y, AOk n A → Wd w s.heap → ZOk w Z s.heap → Rd w s.heap Z a x → Rd w s.heap Z b y →
  wpAny (MM w) A (compareOp op x y) (fun v s' => Kp s s' ∧ v = .bool c) NoE s
theorem YB.cmp {op : CmpOp} {l r' : Expr} {pos : Pos} {whole : Sem Value} {a b : D} {c : Bool} (ha : Y w n env r (eval l env) a) (hb : Y w n env r (eval r' env) b) (hc : CmpOK w n op a b c) (hm : behindInMarks op r' = false) :
    YB w n env r (isTrue (.Compare l [op] [r'] pos) env whole) c := fun A s Z ao F => by
  refine wpAny_isTrue_Compare1 (hm := hm) (wpAny_mono (ha A s Z ao F) (fun x s₁ ⟨k1, r1⟩ => wpAny_mono (hb A s₁ Z ao (F.keeps k1.k)) (fun y s₂ ⟨k2, r2⟩ => 
    wpAny_mono (hc A s₂ Z x y ao (F.wd.keeps (k1.trans k2).k) (F.z.keeps (k1.trans k2).k) (r1.mono (.of_keeps k2.k) fun _ q => q) r2) (fun c' s₃ ⟨k3, e3⟩ => ?_) fun _ _ e => e) fun _ _ e => e) fun _ _ e => e)
  subst e3
  exact wpAny_truthy_bool ⟨(k1.trans k2).trans k3, rfl⟩
theorem Y.cmp {op : CmpOp} {l r' : Expr} {pos : Pos} {a b : D} {c : Bool} (ha : Y w n env r (eval l env) a) (hb : Y w n env r (eval r' env) b) (hc : CmpOK w n op a b c) (hm : behindInMarks op r' = false) :
    Y w n env r (eval (.Compare l [op] [r'] pos) env) (.bool c) := fun A s Z ao F => by
  refine wpAny_Compare1 (hm := hm) (wpAny_mono (ha A s Z ao F) (fun x s₁ ⟨k1, r1⟩ => wpAny_mono (hb A s₁ Z ao (F.keeps k1.k)) (fun y s₂ ⟨k2, r2⟩ => 
    wpAny_mono (hc A s₂ Z x y ao (F.wd.keeps (k1.trans k2).k) (F.z.keeps (k1.trans k2).k) (r1.mono (.of_keeps k2.k) fun _ q => q) r2) (fun c' s₃ ⟨k3, e3⟩ => ?_) fun _ _ e => e) fun _ _ e => e) fun _ _ e => e)
  subst e3
  exact ⟨(k1.trans k2).trans k3, rfl⟩

theorem testChain2 {pos : Pos} {op1 op2 : CmpOp} {a b c : D} {x : Value} {tb tc : Sem Value} {c1 c2 : Bool} (hb : Y w n env r tb b) (hc : Y w n env r tc c) (h1 : CmpOK w n op1 a b c1) (h2 : CmpOK w n op2 b c c2) :
    ∀ A s Z, AOk n A → FIe w env Z r s.heap → Rd w s.heap Z a x → wpAny (MM w) A (testChain pos x [op1, op2] [tb, tc]) (fun v s' => Kp s s' ∧ v = (c1 && c2)) NoE s := fun A s Z ao F ra => by
  unfold testChain
  refine wpAny_bind (wpAny_holding (wpAny_mono (hb A s Z ao F) (fun y s₁ ⟨k1, r1⟩ => wpAny_bind (wpAny_standAt (wpAny_bind (wpAny_holding (wpAny_mono
    (h1 A s₁ Z x y ao (F.wd.keeps k1.k) (F.z.keeps k1.k) (ra.mono (.of_keeps k1.k) fun _ q => q) r1) (fun c' s₂ ⟨k2, e2⟩ => ?_) fun _ _ e => e))))) fun _ _ e => e))
  subst e2
  refine wpAny_bind (wpAny_release (wpAny_bind (wpAny_holding (wpAny_truthy_bool ?_))))
  cases c1 with
  | false => exact wpAny_pure ⟨k1.trans k2, rfl⟩
  | true =>
    show wpAny _ _ (testChain pos y [op2] [tc]) _ _ _
    unfold testChain
    have k12 := k1.trans k2
    refine wpAny_bind (wpAny_holding (wpAny_mono (hc A s₂ Z ao (F.keeps k12.k)) (fun z s₃ ⟨k3, r3⟩ => wpAny_bind (wpAny_standAt (wpAny_bind (wpAny_operateT (wpAny_mono
      (h2 A s₃ Z y z ao (F.wd.keeps (k12.trans k3).k) (F.z.keeps (k12.trans k3).k) (r1.mono (.of_keeps (k2.trans k3).k) fun _ q => q) r3) (fun c'' s₄ ⟨k4, e4⟩ => ?_) fun _ _ e => e))))) fun _ _ e => e))
    subst e4
    exact wpAny_holding (wpAny_truthy_bool ⟨(k12.trans k3).trans k4, by simp⟩)
theorem compareChain2 {pos : Pos} {op1 op2 : CmpOp} {a b c : D} {x : Value} {tb tc : Sem Value} {c1 c2 : Bool} (hb : Y w n env r tb b) (hc : Y w n env r tc c) (h1 : CmpOK w n op1 a b c1) (h2 : CmpOK w n op2 b c c2) :
    ∀ A s Z, AOk n A → FIe w env Z r s.heap → Rd w s.heap Z a x → wpAny (MM w) A (compareChain pos x [op1, op2] [tb, tc]) (fun v s' => Kp s s' ∧ v = .bool (c1 && c2)) NoE s := fun A s Z ao F ra => by
  unfold compareChain
  refine wpAny_bind (wpAny_holding (wpAny_mono (hb A s Z ao F) (fun y s₁ ⟨k1, r1⟩ => wpAny_bind (wpAny_standAt (wpAny_bind (wpAny_holding (wpAny_mono
    (h1 A s₁ Z x y ao (F.wd.keeps k1.k) (F.z.keeps k1.k) (ra.mono (.of_keeps k1.k) fun _ q => q) r1) (fun c' s₂ ⟨k2, e2⟩ => ?_) fun _ _ e => e))))) fun _ _ e => e))
  subst e2
  refine wpAny_bind (wpAny_release (wpAny_bind (wpAny_holding (wpAny_truthy_bool ?_))))
  cases c1 with
  | false => exact wpAny_pure ⟨k1.trans k2, rfl⟩
  | true =>
    show wpAny _ _ (compareChain pos y [op2] [tc]) _ _ _
    unfold compareChain
    have k12 := k1.trans k2
    refine wpAny_bind (wpAny_holding (wpAny_mono (hc A s₂ Z ao (F.keeps k12.k)) (fun z s₃ ⟨k3, r3⟩ => wpAny_bind (wpAny_standAt (wpAny_operateT (wpAny_mono
      (h2 A s₃ Z y z ao (F.wd.keeps (k12.trans k3).k) (F.z.keeps (k12.trans k3).k) (r1.mono (.of_keeps (k2.trans k3).k) fun _ q => q) r3) (fun c'' s₄ ⟨k4, e4⟩ => ?_) fun _ _ e => e)))) fun _ _ e => e))
    subst e4
    exact ⟨(k12.trans k3).trans k4, by simp⟩
theorem YB.cmp2 {op1 op2 : CmpOp} {l x1 x2 : Expr} {pos : Pos} {whole : Sem Value} {a b c : D} {c1 c2 : Bool} (ha : Y w n env r (eval l env) a) (hb : Y w n env r (eval x1 env) b) (hc : Y w n env r (eval x2 env) c)
    (h1 : CmpOK w n op1 a b c1) (h2 : CmpOK w n op2 b c c2) (hm : behindInMarks op2 x2 = false) :
    YB w n env r (isTrue (.Compare l [op1, op2] [x1, x2] pos) env whole) (c1 && c2) := fun A s Z ao F => by
  show wpAny _ _ (eval l env >>= fun v => testChain pos v [op1, op2] [eval x1 env, markedBehindIn op2 x2 (eval x2 env)]) _ _ s
  rw [markedBehindIn_of_false hm]
  exact wpAny_bind (wpAny_mono (ha A s Z ao F) (fun x s₁ ⟨k1, r1⟩ => wpAny_mono (testChain2 hb hc h1 h2 A s₁ Z ao (F.keeps k1.k) r1) (fun _ _ ⟨k, e⟩ => ⟨k1.trans k, e⟩) fun _ _ e => e) fun _ _ e => e)
theorem Y.cmp2 {op1 op2 : CmpOp} {l x1 x2 : Expr} {pos : Pos} {a b c : D} {c1 c2 : Bool} (ha : Y w n env r (eval l env) a) (hb : Y w n env r (eval x1 env) b) (hc : Y w n env r (eval x2 env) c)
    (h1 : CmpOK w n op1 a b c1) (h2 : CmpOK w n op2 b c c2) (hm : behindInMarks op2 x2 = false) :
    Y w n env r (eval (.Compare l [op1, op2] [x1, x2] pos) env) (.bool (c1 && c2)) := fun A s Z ao F => by
  show wpAny _ _ (eval l env >>= fun v => compareChain pos v [op1, op2] [eval x1 env, markedBehindIn op2 x2 (eval x2 env)]) _ _ s
  rw [markedBehindIn_of_false hm]
  exact wpAny_bind (wpAny_mono (ha A s Z ao F) (fun x s₁ ⟨k1, r1⟩ => wpAny_mono (compareChain2 hb hc h1 h2 A s₁ Z ao (F.keeps k1.k) r1) (fun _ _ ⟨k, e⟩ => ⟨k1.trans k, e⟩) fun _ _ e => e) fun _ _ e => e)

noncomputable def BinOK (w : World) (n : Nat) (op : Operator) (a b : D) (c : D) : Prop := ∀ A s Z x y, AOk n A → Wd w s.heap → ZOk w Z s.heap → Rd w s.heap Z a x → Rd w s.heap Z b y →
  wpAny (MM w) A (binaryOp op x y) (fun v s' => Kp s s' ∧ Rd w s'.heap Z c v) NoE s
theorem Y.bin {op : Operator} {l r' : Expr} {pos : Pos} {a b c : D} (ha : Y w n env r (eval l env) a) (hb : Y w n env r (eval r' env) b) (hc : BinOK w n op a b c) :
    Y w n env r (eval (.BinOp l op r' pos) env) c := fun A s Z ao F => by
  exact wpAny_BinOp (wpAny_mono (ha A s Z ao F) (fun x s₁ ⟨k1, r1⟩ => wpAny_mono (hb A s₁ Z ao (F.keeps k1.k)) (fun y s₂ ⟨k2, r2⟩ => 
    wpAny_mono (hc A s₂ Z x y ao (F.wd.keeps (k1.trans k2).k) (F.z.keeps (k1.trans k2).k) (r1.mono (.of_keeps k2.k) fun _ q => q) r2) (fun c' s₃ ⟨k3, e3⟩ => ⟨(k1.trans k2).trans k3, e3⟩) fun _ _ e => e) fun _ _ e => e) fun _ _ e => e)
theorem BinOK.addI {a b : Int} : BinOK w n .Add (.int a) (.int b) (.int (a + b)) := fun A s Z x y _ _ _ ⟨_, e1⟩ ⟨_, e2⟩ => by subst e1; subst e2; exact PyProof.Rows.add_int ⟨Kp.tok _, _, rfl⟩
theorem BinOK.subI {a b : Int} : BinOK w n .Sub (.int a) (.int b) (.int (a - b)) := fun A s Z x y _ _ _ ⟨_, e1⟩ ⟨_, e2⟩ => by subst e1; subst e2; exact PyProof.Rows.sub_int ⟨Kp.tok _, _, rfl⟩
theorem BinOK.modI {a b : Int} (hb : b ≠ 0) : BinOK w n .Mod (.int a) (.int b) (.int (a.fmod b)) := fun A s Z x y _ _ _ ⟨_, e1⟩ ⟨_, e2⟩ => by subst e1; subst e2; exact PyProof.Rows.mod_int hb ⟨Kp.tok _, _, rfl⟩
theorem BinOK.divI {a b : Int} (hb : b ≠ 0) (hp : Builtin.divisionGoesByPylong a b = false) : BinOK w n .FloorDiv (.int a) (.int b) (.int (a.fdiv b)) := fun A s Z x y _ _ _ ⟨_, e1⟩ ⟨_, e2⟩ => by subst e1; subst e2; exact PyProof.Rows.floordiv_int hb ⟨Kp.tok _, _, rfl⟩ (.inl hp)
theorem BinOK.mulI {a b : Int} (hm : IntMulOk a b) : BinOK w n .Mult (.int a) (.int b) (.int (a * b)) := fun A s Z x y _ _ _ ⟨_, e1⟩ ⟨_, e2⟩ => by subst e1; subst e2; exact PyProof.Rows.mul_int ⟨Kp.tok _, _, rfl⟩ hm

theorem CmpOK.eqI {a b : Int} : CmpOK w n .Eq (.int a) (.int b) (a == b) := fun A s Z x y _ _ _ ⟨_, e1⟩ ⟨_, e2⟩ => by subst e1; subst e2; exact PyProof.Rows.eq_int ⟨Kp.refl _, rfl⟩
theorem CmpOK.neI {a b : Int} : CmpOK w n .NotEq (.int a) (.int b) (a != b) := fun A s Z x y _ _ _ ⟨_, e1⟩ ⟨_, e2⟩ => by subst e1; subst e2; exact PyProof.Rows.ne_int ⟨Kp.refl _, rfl⟩
theorem CmpOK.ltI {a b : Int} : CmpOK w n .Lt (.int a) (.int b) (decide (a < b)) := fun A s Z x y _ _ _ ⟨_, e1⟩ ⟨_, e2⟩ => by subst e1; subst e2; exact PyProof.Rows.lt_int ⟨Kp.refl _, rfl⟩
theorem CmpOK.leI {a b : Int} : CmpOK w n .LtE (.int a) (.int b) (decide (a ≤ b)) := fun A s Z x y _ _ _ ⟨_, e1⟩ ⟨_, e2⟩ => by subst e1; subst e2; exact PyProof.Rows.le_int ⟨Kp.refl _, rfl⟩
theorem CmpOK.gtI {a b : Int} : CmpOK w n .Gt (.int a) (.int b) (decide (b < a)) := fun A s Z x y _ _ _ ⟨_, e1⟩ ⟨_, e2⟩ => by subst e1; subst e2; exact PyProof.Rows.gt_int ⟨Kp.refl _, rfl⟩
theorem CmpOK.geI {a b : Int} : CmpOK w n .GtE (.int a) (.int b) (decide (b ≤ a)) := fun A s Z x y _ _ _ ⟨_, e1⟩ ⟨_, e2⟩ => by subst e1; subst e2; exact PyProof.Rows.ge_int ⟨Kp.refl _, rfl⟩
theorem CmpOK.eqS {a b : Str} : CmpOK w n .Eq (.str a) (.str b) (a == b) := fun A s Z x y _ _ _ ⟨_, e1⟩ ⟨_, e2⟩ => by subst e1; subst e2; exact PyProof.Rows.eq_str ⟨Kp.refl _, rfl⟩
theorem CmpOK.neS {a b : Str} : CmpOK w n .NotEq (.str a) (.str b) (a != b) := fun A s Z x y _ _ _ ⟨_, e1⟩ ⟨_, e2⟩ => by subst e1; subst e2; exact PyProof.Rows.ne_str ⟨Kp.refl _, rfl⟩
theorem CmpOK.eqB {a b : Bool} : CmpOK w n .Eq (.bool a) (.bool b) (a == b) := fun A s Z x y _ _ _ e1 e2 => by cases e1; cases e2; exact PyProof.Rows.eq_bool ⟨Kp.refl _, rfl⟩
theorem CmpOK.neB {a b : Bool} : CmpOK w n .NotEq (.bool a) (.bool b) (a != b) := fun A s Z x y _ _ _ e1 e2 => by cases e1; cases e2; exact PyProof.Rows.ne_bool ⟨Kp.refl _, rfl⟩
noncomputable def isNone : D → Bool
  | .none => true
  | _ => false
theorem isNone_val {h : Heap} {Z : List Addr} : ∀ {d : D} {v : Value}, (match d with | .any => False | _ => True) → Rd w h Z d v → (v == Value.none) = isNone d
  | .none, _, _, r => by cases r; rfl
  | .bool _, _, _, r => by cases r; rfl
  | .int _, _, _, r => by obtain ⟨_, rfl⟩ := r; rfl
  | .str _, _, _, r => by obtain ⟨_, rfl⟩ := r; rfl
  | .own _, _, _, r => by cases r; rfl
  | .fn _, _, _, r => by cases r; rfl
  | .tup _, _, _, r => by obtain ⟨_, _, _, rfl, _⟩ := r; rfl
  | .lst _, _, _, r => by obtain ⟨_, _, _, rfl, _⟩ := r; rfl
  | .dct _, _, _, r => by obtain ⟨_, _, _, rfl, _⟩ := r; rfl
  | .inst _ _, _, _, r => by obtain ⟨_, _, _, _, rfl, _⟩ := r; rfl
  | .meth _ _, _, _, r => by obtain ⟨_, _, rfl, _⟩ := r; rfl
  | .lam _ _ _ _ _, _, _, r => by obtain ⟨_, _, _, rfl, _⟩ := r; rfl
theorem CmpOK.isN {d : D} (hd : match d with | .any => False | _ => True) : CmpOK w n .Is d .none (isNone d) := fun A s Z x y _ _ _ e1 e2 => by cases e2; exact is_none ⟨Kp.refl _, by rw [isNone_val hd e1]⟩
theorem CmpOK.isNotN {d : D} (hd : match d with | .any => False | _ => True) : CmpOK w n .IsNot d .none (!isNone d) := fun A s Z x y _ _ _ e1 e2 => by cases e2; exact isNot_none ⟨Kp.refl _, by rw [isNone_val hd e1]⟩

theorem Rds.strs {h : Heap} {Z : List Addr} : ∀ {ss : List Str} {vs : List Value}, Rds w h Z (ss.map D.str) vs → StrsAre vs ss
  | [], _, r => by cases r; exact .nil
  | x :: ss, _, r => by
    obtain ⟨v, r', rfl, ⟨t, rfl⟩, h3⟩ := r
    exact .cons x t (Rds.strs h3)
theorem Rds.ints {h : Heap} {Z : List Addr} : ∀ {ss : List Int} {vs : List Value}, Rds w h Z (ss.map D.int) vs → IntsAre vs ss
  | [], _, r => by cases r; exact .nil
  | x :: ss, _, r => by
    obtain ⟨v, r', rfl, ⟨t, rfl⟩, h3⟩ := r
    exact .cons x t (Rds.ints h3)
end
end Uni
namespace Uni
section
variable {w : World} {n : Nat} {env : Env} {r : Rho} {h : Heap} {Z : List Addr}

theorem Rds.get : ∀ {l : List D} {vs : List Value} {k : Nat} {d : D}, Rds w h Z l vs → l[k]? = some d → ∃ v, vs[k]? = some v ∧ Rd w h Z d v
  | [], _, _, _, _, e => by simp at e
  | x :: l, _, 0, d, r, e => by
    obtain ⟨v, r', rfl, h2, h3⟩ := r
    simp at e; subst e
    exact ⟨v, rfl, h2⟩
  | x :: l, _, k + 1, d, r, e => by
    obtain ⟨v, r', rfl, h2, h3⟩ := r
    simpa using Rds.get h3 (by simpa using e)
theorem Rds.len : ∀ {l : List D} {vs : List Value}, Rds w h Z l vs → vs.length = l.length
  | [], _, r => by cases r; rfl
  | x :: l, _, r => by
    obtain ⟨v, r', rfl, h2, h3⟩ := r
    simp [h3.len]
theorem Rds.append : ∀ {l l' : List D} {vs vs' : List Value}, Rds w h Z l vs → Rds w h Z l' vs' → Rds w h Z (l ++ l') (vs ++ vs')
  | [], _, _, _, r, r' => by cases r; exact r'
  | x :: l, _, _, _, r, r' => by
    obtain ⟨v, q, rfl, h2, h3⟩ := r
    exact ⟨v, _, rfl, h2, h3.append r'⟩
theorem Rds.take : ∀ {l : List D} {vs : List Value} (k : Nat), Rds w h Z l vs → Rds w h Z (l.take k) (vs.take k)
  | _, _, 0, _ => by simp [Rds]
  | [], _, k + 1, r => by cases r; simp [Rds]
  | x :: l, _, k + 1, r => by
    obtain ⟨v, q, rfl, h2, h3⟩ := r
    exact ⟨v, _, rfl, h2, h3.take k⟩
theorem Rds.drop : ∀ {l : List D} {vs : List Value} (k : Nat), Rds w h Z l vs → Rds w h Z (l.drop k) (vs.drop k)
  | _, _, 0, r => by simpa using r
  | [], _, k + 1, r => by cases r; simp [Rds]
  | x :: l, _, k + 1, r => by
    obtain ⟨v, q, rfl, h2, h3⟩ := r
    simpa using h3.drop k
theorem Rds.rev : ∀ {l : List D} {vs : List Value}, Rds w h Z l vs → Rds w h Z l.reverse vs.reverse
  | [], _, r => by cases r; simp [Rds]
  | x :: l, _, r => by
    obtain ⟨v, q, rfl, h2, h3⟩ := r
    rw [List.reverse_cons, List.reverse_cons]
    exact h3.rev.append (Rds.one h2)

theorem lstO_isList {vs : Array Value} {a k} (e : h.get? a = some (lstO vs k)) : h.IsList a vs := ⟨_, e, rfl, k, rfl⟩
theorem tupO_isTup {vs : Array Value} {a k} (e : h.get? a = some (tupO vs k)) : IsTup h a vs := ⟨_, e, rfl, k, rfl⟩

theorem Ys.nil {pos} : Ys w n env r (spliced (backTo pos (starEach [] env))) [] := fun _ s _ _ _ => wpAny_items_nil ⟨Kp.refl s, rfl⟩
theorem Ys.cons {pos e rest d ds} (hd : Y w n env r (eval e env) d) (hr : Ys w n env r (spliced (backTo pos (starEach rest env))) ds)
    (he : starEach (e :: rest) env = (false, eval e env) :: starEach rest env) : Ys w n env r (spliced (backTo pos (starEach (e :: rest) env))) (d :: ds) := fun A s Z ao F =>
  wpAny_items_cons (wpAny_mono (hd A s Z ao F) (fun v s₁ ⟨k1, r1⟩ => wpAny_mono (hr A s₁ Z ao (F.keeps k1.k)) (fun vs s₂ ⟨k2, r2⟩ => ⟨k1.trans k2, v, vs, rfl, r1.mono (.of_keeps k2.k) fun _ q => q, r2⟩) fun _ _ e => e) fun _ _ e => e) he


theorem Y.list {elts pos ds} (hd : Ys w n env r (spliced (backTo pos (starEach elts env))) ds) (hz : ds.length ≤ sizeLine) : Y w n env r (eval (.List elts pos) env) (.lst ds) := fun A s Z ao F =>
  PyProof.Rows.List_ (wpAny_mono (hd A s Z ao F) (fun vs s₁ ⟨k1, r1⟩ => by
    have zf := (F.z.keeps k1.k).fresh
    exact wpAny_newObj_type (h := And.intro (k1.trans (Kp.push _ _)) ⟨_, vs.toArray, 0, rfl, zf, Heap.get?_push_size _ rfl, r1.mono (.of_keeps fun _ _ e => Heap.get?_push_of_some _ e) fun _ q => q⟩) (by show vs.toArray.size ≤ sizeLine; rw [List.size_toArray, r1.len]; exact hz)) fun _ _ e => e)
theorem Y.tuple {elts k pos ds} (hd : Ys w n env r (spliced (backTo pos (starEach elts env))) ds) (hz : ds.length ≤ sizeLine) : Y w n env r (eval (.Tuple elts k pos) env) (.tup ds) := fun A s Z ao F =>
  PyProof.Rows.Tuple_ (wpAny_mono (hd A s Z ao F) (fun vs s₁ ⟨k1, r1⟩ => by
    have zf := (F.z.keeps k1.k).fresh
    exact wpAny_newObj_type (h := And.intro (k1.trans (Kp.push _ _)) ⟨_, vs.toArray, 0, rfl, zf, Heap.get?_push_size _ rfl, r1.mono (.of_keeps fun _ _ e => Heap.get?_push_of_some _ e) fun _ q => q⟩) (by show vs.toArray.size ≤ sizeLine; rw [List.size_toArray, r1.len]; exact hz)) fun _ _ e => e)

theorem CmpOK.inTS {a : Str} {ss : List Str} : CmpOK w n .In (.str a) (.tup (ss.map D.str)) (ss.any (· == a)) := fun A s Z x y _ _ _ ⟨_, e1⟩ ⟨_, vs, _, e2, _, e3, e4⟩ => by
  subst e1; subst e2; exact in_tuple_strs (tupO_isTup e3) e4.strs ⟨Kp.refl _, rfl⟩
theorem CmpOK.ninTS {a : Str} {ss : List Str} : CmpOK w n .NotIn (.str a) (.tup (ss.map D.str)) (!ss.any (· == a)) := fun A s Z x y _ _ _ ⟨_, e1⟩ ⟨_, vs, _, e2, _, e3, e4⟩ => by
  subst e1; subst e2; exact notin_tuple_strs (tupO_isTup e3) e4.strs ⟨Kp.refl _, rfl⟩
theorem CmpOK.inLS {a : Str} {ss : List Str} : CmpOK w n .In (.str a) (.lst (ss.map D.str)) (ss.any (· == a)) := fun A s Z x y _ _ _ ⟨_, e1⟩ ⟨_, vs, _, e2, _, e3, e4⟩ => by
  subst e1; subst e2; exact in_list_strs (vs := vs.toList) (by simpa using lstO_isList e3) e4.strs ⟨Kp.refl _, rfl⟩
theorem CmpOK.inLI {a : Int} {ss : List Int} : CmpOK w n .In (.int a) (.lst (ss.map D.int)) (ss.any (· == a)) := fun A s Z x y _ _ _ ⟨_, e1⟩ ⟨_, vs, _, e2, _, e3, e4⟩ => by
  subst e1; subst e2; exact in_list_ints (vs := vs.toList) (by simpa using lstO_isList e3) e4.ints ⟨Kp.refl _, rfl⟩
theorem CmpOK.ninLI {a : Int} {ss : List Int} : CmpOK w n .NotIn (.int a) (.lst (ss.map D.int)) (!ss.any (· == a)) := fun A s Z x y _ _ _ ⟨_, e1⟩ ⟨_, vs, _, e2, _, e3, e4⟩ => by
  subst e1; subst e2; exact notin_list_ints (vs := vs.toList) (by simpa using lstO_isList e3) e4.ints ⟨Kp.refl _, rfl⟩

noncomputable abbrev PlainSub (slice : Expr) : Prop := ∀ o i, subscripted slice false o i = operate [o, i] (getItem o i)
theorem Y.itemL {value slice : Expr} {pos : Pos} {l : List D} {k : Int} {d : D} (hv : Y w n env r (eval value env) (.lst l)) (hi : Y w n env r (eval slice env) (.int k)) (h0 : 0 ≤ k) (hk : k < 2 ^ 63) (hx : l[k.toNat]? = some d) (hs : PlainSub slice) :
    Y w n env r (eval (.Subscript value slice pos) env) d := fun A s Z ao F => by
  refine Subscript_ (wpAny_mono (hv A s Z ao F) (fun o s₁ ⟨k1, a, vs, m, e1, e2, e3, e4⟩ => wpAny_mono (hi A s₁ Z ao (F.keeps k1.k)) (fun i s₂ hZ => ?_) fun _ _ e => e) fun _ _ e => e)
  obtain ⟨k2, t, e5⟩ := hZ
  subst e1; subst e5
  have hL := lstO_isList (k2.k _ _ e3)
  obtain ⟨v, e6, e7⟩ := e4.get hx
  exact tail_any hL.typeIs slot_list_getitem.lookup (wpAny_getItem_list hL h0 hk (by simpa using e6) ⟨k1.trans k2, e7.mono (.of_keeps k2.k) fun _ q => q⟩) (hs _ _)
theorem Y.itemLneg {value slice : Expr} {pos : Pos} {l : List D} {k : Int} {d : D} (hv : Y w n env r (eval value env) (.lst l)) (hi : Y w n env r (eval slice env) (.int k)) (h0 : k < 0) (h1 : -(l.length : Int) ≤ k) (hk : -(2 ^ 63) ≤ k) (hx : l[(k + l.length).toNat]? = some d) (hs : PlainSub slice) :
    Y w n env r (eval (.Subscript value slice pos) env) d := fun A s Z ao F => by
  refine Subscript_ (wpAny_mono (hv A s Z ao F) (fun o s₁ ⟨k1, a, vs, m, e1, e2, e3, e4⟩ => wpAny_mono (hi A s₁ Z ao (F.keeps k1.k)) (fun i s₂ hZ => ?_) fun _ _ e => e) fun _ _ e => e)
  obtain ⟨k2, t, e5⟩ := hZ
  subst e1; subst e5
  have hL := lstO_isList (k2.k _ _ e3)
  obtain ⟨v, e6, e7⟩ := e4.get hx
  have hsz : vs.size = l.length := by rw [← e4.len, Array.length_toList]
  exact tail_any hL.typeIs slot_list_getitem.lookup (wpAny_getItem_list_neg hL h0 (by rw [hsz]; exact h1) hk (by rw [hsz]; simpa using e6) ⟨k1.trans k2, e7.mono (.of_keeps k2.k) fun _ q => q⟩) (hs _ _)
theorem Y.itemT {value slice : Expr} {pos : Pos} {l : List D} {k : Int} {d : D} (hv : Y w n env r (eval value env) (.tup l)) (hi : Y w n env r (eval slice env) (.int k)) (h0 : 0 ≤ k) (hk : k < 2 ^ 63) (hx : l[k.toNat]? = some d) (hs : PlainSub slice) :
    Y w n env r (eval (.Subscript value slice pos) env) d := fun A s Z ao F => by
  refine Subscript_ (wpAny_mono (hv A s Z ao F) (fun o s₁ ⟨k1, a, vs, m, e1, e2, e3, e4⟩ => wpAny_mono (hi A s₁ Z ao (F.keeps k1.k)) (fun i s₂ hZ => ?_) fun _ _ e => e) fun _ _ e => e)
  obtain ⟨k2, t, e5⟩ := hZ
  subst e1; subst e5
  have hL := tupO_isTup (k2.k _ _ e3)
  obtain ⟨v, e6, e7⟩ := e4.get hx
  have hlt : k.toNat < l.length := by
    rcases Nat.lt_or_ge k.toNat l.length with c | c
    · exact c
    · rw [List.getElem?_eq_none c] at hx; cases hx
  have hsz : vs.toList.length = l.length := e4.len
  refine item_tupleT (l := vs.toList) (j := k.toNat) (by simpa using hL) (by lia) hk ?_ e6 ⟨k1.trans k2, e7.mono (.of_keeps k2.k) fun _ q => q⟩ (hs _ _)
  unfold seqIndex?
  have c1 : ¬ k < 0 := by apply Ar.l7 <;> assumption
  have c2 : k < (vs.toList.length : Int) := by rw [hsz]; apply Ar.j3 <;> assumption
  simp only [c1, if_false, h0, c2, decide_true, Bool.and_self, if_true]

theorem isPart_int {v : Value} {k : Int} (e : Rd w h Z (.int k) v) : IsPart v (some k) := by
  obtain ⟨t, rfl⟩ := e
  exact .int k t
noncomputable def YP (w : World) (n : Nat) (env : Env) (r : Rho) (x : Option Expr) (k : Option Int) : Prop := ∀ A s Z, AOk n A → FIe w env Z r s.heap → wpAny (MM w) A (evalPart x env) (fun v s' => Kp s s' ∧ IsPart v k) NoE s
theorem YP.none : YP w n env r none none := fun _ s _ _ _ => wpAny_pure ⟨Kp.refl s, .none⟩
theorem YP.some {e k} (he : Y w n env r (eval e env) (.int k)) : YP w n env r (some e) (some k) := fun A s Z ao F => wpAny_mono (he A s Z ao F) (fun _ _ ⟨k1, e1⟩ => ⟨k1, isPart_int e1⟩) fun _ _ e => e
theorem Y.slice {value : Expr} {lo hi st : Option Expr} {p pos : Pos} {l l' : List D} {a b c : Option Int} (hv : Y w n env r (eval value env) (.lst l)) (ha : YP w n env r lo a) (hb : YP w n env r hi b) (hc : YP w n env r st c)
    (h0 : c ≠ Option.some 0) (hz : l.length ≤ sizeLine)
    (hl : ∀ vs : Array Value, ∀ h Z, Rds w h Z l vs.toList → Rds w h Z l' (slicePick vs a b c).toList) :
    Y w n env r (eval (.Subscript value (.Slice lo hi st p) pos) env) (.lst l') := fun A s Z ao F => by
  refine Subscript_ (wpAny_mono (hv A s Z ao F) (fun o s₁ hZ => ?_) fun _ _ e => e)
  obtain ⟨k1, ad, vs, m, e1, e2, e3, e4⟩ := hZ
  subst e1
  refine wpAny_Slice (wpAny_mono (ha A s₁ Z ao (F.keeps k1.k)) (fun x1 s₂ ⟨k2, p1⟩ => wpAny_mono (hb A s₂ Z ao (F.keeps (k1.trans k2).k)) (fun x2 s₃ ⟨k3, p2⟩ => wpAny_mono (hc A s₃ Z ao (F.keeps ((k1.trans k2).trans k3).k)) (fun x3 s₄ ⟨k4, p3⟩ => ?_) fun _ _ e => e) fun _ _ e => e) fun _ _ e => e)
  have k14 := ((k1.trans k2).trans k3).trans k4
  have kk := (k2.trans k3).trans k4
  have hL := lstO_isList (kk.k _ _ e3)
  have hsz : vs.size ≤ sizeLine := by rw [← Array.length_toList, e4.len]; exact hz
  have hT : Shared.TypeIs { s₄ with heap := s₄.heap.push { cls := .type "slice", data := .fields #[x1, x2, x3] } } (.ref ad) "list" := (hL.push _).typeIs
  have zf : (s₄.heap.push { cls := .type "slice", data := .fields #[x1, x2, x3] }).objs.size ∉ Z := ((F.z.keeps k14.k).keeps (h' := s₄.heap.push { cls := .type "slice", data := .fields #[x1, x2, x3] }) fun _ _ e => Heap.get?_push_of_some _ e).fresh
  have fin : wpAny (MM w) A (getItem (.ref ad) (.ref s₄.heap.objs.size)) (fun v s' => Kp s s' ∧ Rd w s'.heap Z (.lst l') v) NoE { s₄ with heap := s₄.heap.push { cls := .type "slice", data := .fields #[x1, x2, x3] } } := by
    refine wpAny_getItem_list_slice (hL.push _) (Heap.IsSliceOf.new ..) p1 p2 p3 h0 ⟨k14.trans ((Kp.push _ _).trans (Kp.push _ _)), _, _, 0, rfl, zf, Heap.get?_push_size _ rfl, ?_⟩ hsz
    exact (hl vs _ _ e4).mono (.of_keeps fun _ _ e => Heap.get?_push_of_some _ (Heap.get?_push_of_some _ (kk.k _ _ e))) fun _ q => q
  cases st with
  | none => exact tail_any hT slot_list_getitem.lookup fin rfl
  | some st => exact tail_any hT slot_list_getitem.lookup fin rfl
theorem Y.sliceTo {value : Expr} {e : Expr} {p pos : Pos} {l : List D} {k : Nat} (hv : Y w n env r (eval value env) (.lst l)) (he : Y w n env r (eval e env) (.int k)) (hz : l.length ≤ sizeLine) :
    Y w n env r (eval (.Subscript value (.Slice Option.none (Option.some e) Option.none p) pos) env) (.lst (l.take k)) :=
  Y.slice hv .none (.some he) .none (by simp) hz fun vs h Z q => by rw [slicePick_upto']; exact q.take k
theorem Y.sliceFrom {value : Expr} {e : Expr} {p pos : Pos} {l : List D} {k : Nat} (hv : Y w n env r (eval value env) (.lst l)) (he : Y w n env r (eval e env) (.int k)) (hz : l.length ≤ sizeLine) :
    Y w n env r (eval (.Subscript value (.Slice (Option.some e) Option.none Option.none p) pos) env) (.lst (l.drop k)) :=
  Y.slice hv (.some he) .none .none (by simp) hz fun vs h Z q => by rw [slicePick_from']; exact q.drop k
theorem Y.sliceRev {value : Expr} {e : Expr} {p pos : Pos} {l : List D} (hv : Y w n env r (eval value env) (.lst l)) (he : Y w n env r (eval e env) (.int (-1))) (hz : l.length ≤ sizeLine) :
    Y w n env r (eval (.Subscript value (.Slice Option.none Option.none (Option.some e) p) pos) env) (.lst l.reverse) :=
  Y.slice hv .none .none (.some he) (by simp) hz fun vs h Z q => by rw [krv_pick]; simpa using q.rev
theorem Y.neg {e : Expr} {pos : Pos} {k : Int} (he : Y w n env r (eval e env) (.int k)) : Y w n env r (eval (.UnaryOp .USub e pos) env) (.int (-k)) := fun A s Z ao F =>
  wpAny_UnaryOp (wpAny_mono (he A s Z ao F) (fun v s₁ ⟨k1, t, e1⟩ => by subst e1; exact PyProof.Rows.neg_int ⟨k1.trans (Kp.tok _), _, rfl⟩) fun _ _ e => e)
end
end Uni
namespace Uni

structure FIs (w : World) (env : Env) (Zo Z : List Addr) (hb : Heap) (r : Rho) (h : Heap) : Prop where
  e : FIe w env (Zo ++ Z) r h
  kp : ∀ b o, hb.get? b = some o → h.get? b = some o
  wd : Wd w hb
  ln : env.locals ∈ Zo
  fr : ∀ z ∈ Zo, hb.get? z = none
  cells : ∀ x, env.kindOf x = some .cell → ∃ c v, env.cells.lookup x = some c ∧ h.IsCell c v ∧ c ∈ Zo ∧ c ≠ env.locals
  inj : ∀ x y c, env.kindOf x = some .cell → env.kindOf y = some .cell → env.cells.lookup x = some c → env.cells.lookup y = some c → x = y
  nofree : ∀ x, env.kindOf x ≠ some .free

theorem FIs.keeps {w : World} {env : Env} {Zo Z : List Addr} {hb : Heap} {r : Rho} {h h' : Heap} (F : FIs w env Zo Z hb r h) (k : ∀ b o, h.get? b = some o → h'.get? b = some o) : FIs w env Zo Z hb r h' where
  e := F.e.keeps k
  kp := fun b o e => k _ _ (F.kp b o e)
  wd := F.wd
  ln := F.ln
  fr := F.fr
  cells := fun x hx => let ⟨c, v, e1, e2, e3⟩ := F.cells x hx; ⟨c, v, e1, e2.keeps k, e3⟩
  inj := F.inj
  nofree := F.nofree

theorem FIe.weak {w : World} {env : Env} {Z : List Addr} {r r' : Rho} {h : Heap} (F : FIe w env Z r h) (le : ∀ x d, r' x = some d → r x = some d) : FIe w env Z r' h where
  wd := F.wd
  z := F.z
  ns := let ⟨m, hn, hm⟩ := F.ns; ⟨m, hn, fun x d e => hm x d (le _ _ e)⟩
  cl := fun x d e => F.cl x d (le _ _ e)
  kd := F.kd
  gl := F.gl
  bi := F.bi
theorem FIs.weak {w : World} {env : Env} {Zo Z : List Addr} {hb : Heap} {r r' : Rho} {h : Heap} (F : FIs w env Zo Z hb r h) (le : ∀ x d, r' x = some d → r x = some d) : FIs w env Zo Z hb r' h :=
  ⟨F.e.weak le, F.kp, F.wd, F.ln, F.fr, F.cells, F.inj, F.nofree⟩

theorem FIs.widen {w : World} {env : Env} {Zo Z Wl : List Addr} {hb : Heap} {r : Rho} {h h' : Heap} (F : FIs w env Zo Z hb r h) (k : ∀ b o, h.get? b = some o → h'.get? b = some o) (hw : ∀ b ∈ Wl, h.get? b = none ∧ ∃ o, h'.get? b = some o)
    (grow : ∀ d v, Rd w h (Zo ++ Z) d v → Rd w h' (Wl ++ (Zo ++ Z)) d v) : FIs w env Zo (Wl ++ Z) hb r h' where
  e := by
    have gr : ∀ d v, Rd w h (Zo ++ Z) d v → Rd w h' (Zo ++ (Wl ++ Z)) d v := fun d v x => (grow d v x).mono (.of_keeps fun _ _ e => e) fun b hb => by
      simp only [List.mem_append] at hb ⊢
      rcases hb with h | h | h
      · exact .inr (.inl h)
      · exact .inl h
      · exact .inr (.inr h)
    refine ⟨F.e.wd.keeps k, fun z hz => ?_, ?_, fun x d e q => ?_, F.e.kd, F.e.gl, F.e.bi⟩
    · simp only [List.mem_append] at hz
      rcases hz with q | q | q
      · obtain ⟨a, o, e⟩ := F.e.z z (List.mem_append_left _ q); exact ⟨a, o, k _ _ e⟩
      · obtain ⟨a, b⟩ := hw z q
        refine ⟨?_, b⟩
        cases q : (KK w).lookup z with
        | none => rfl
        | some o' => have := F.e.wd.k _ _ q; rw [a] at this; cases this
      · obtain ⟨a, o, e⟩ := F.e.z z (List.mem_append_right _ q); exact ⟨a, o, k _ _ e⟩
    · obtain ⟨m, hn, hm⟩ := F.e.ns
      exact ⟨m, hn.keeps k, fun x d e q => let ⟨v, e1, e2⟩ := hm x d e q; ⟨v, e1, gr _ _ e2⟩⟩
    · obtain ⟨c, v, e1, e2, e3⟩ := F.e.cl x d e q
      exact ⟨c, v, e1, e2.keeps k, gr _ _ e3⟩
  kp := fun b o e => k _ _ (F.kp b o e)
  wd := F.wd
  ln := F.ln
  fr := F.fr
  cells := fun x hx => let ⟨c, v, e1, e2, e3⟩ := F.cells x hx; ⟨c, v, e1, e2.keeps k, e3⟩
  inj := F.inj
  nofree := F.nofree
theorem FIs.change {w : World} {env : Env} {Zo Z Wl Wk : List Addr} {hb : Heap} {r : Rho} {h h' : Heap} (F : FIs w env Zo (Wl ++ Z) hb r h) (k : ∀ b o, b ∉ Wl → h.get? b = some o → h'.get? b = some o) (hw : ∀ b ∈ Wl, b ∉ Zo ∧ b ∉ Z ∧ hb.get? b = none)
    (hk : ∀ b ∈ Wk, b ∈ Wl ∧ ∃ o, h'.get? b = some o) : FIs w env Zo (Wk ++ Z) hb r h' where
  e := by
    have gr : ∀ d v, Rd w h (Zo ++ (Wl ++ Z)) d v → Rd w h' (Zo ++ (Wk ++ Z)) d v := fun d v x => x.mono (fun b o hb e => k b o (fun q => hb (by simp [q])) e) fun b hb => by
      simp only [List.mem_append] at hb ⊢
      rcases hb with q | q | q
      · exact .inl q
      · exact .inr (.inl (hk b q).1)
      · exact .inr (.inr q)
    refine ⟨F.wd.keeps fun b o e => k b o (fun q => by rw [(hw b q).2.2] at e; cases e) (F.kp b o e), fun z hz => ?_, ?_, fun x d e q => ?_, F.e.kd, F.e.gl, F.e.bi⟩
    · simp only [List.mem_append] at hz
      rcases hz with q | q | q
      · obtain ⟨a, o, e⟩ := F.e.z z (List.mem_append_left _ q); exact ⟨a, o, k _ _ (fun hz => (hw z hz).1 q) e⟩
      · obtain ⟨a, b⟩ := hk z q
        exact ⟨(F.e.z z (List.mem_append_right _ (List.mem_append_left _ a))).1, b⟩
      · obtain ⟨a, o, e⟩ := F.e.z z (List.mem_append_right _ (List.mem_append_right _ q)); exact ⟨a, o, k _ _ (fun hz => (hw z hz).2.1 q) e⟩
    · obtain ⟨m, hn, hm⟩ := F.e.ns
      exact ⟨m, hn.at' fun o e => k _ o (fun q => (hw _ q).1 F.ln) e, fun x d e q => let ⟨v, e1, e2⟩ := hm x d e q; ⟨v, e1, gr _ _ e2⟩⟩
    · obtain ⟨c, v, e1, ⟨co, e2, e2'⟩, e3⟩ := F.e.cl x d e q
      have hx : env.kindOf x = some .cell := q.resolve_right (F.nofree x)
      obtain ⟨c', v', f1, f2, f3, _⟩ := F.cells x hx
      rw [e1] at f1; cases f1
      exact ⟨c, v, e1, ⟨co, k _ _ (fun q => (hw c q).1 f3) e2, e2'⟩, gr _ _ e3⟩
  kp := fun b o e => k b o (fun q => by rw [(hw b q).2.2] at e; cases e) (F.kp b o e)
  wd := F.wd
  ln := F.ln
  fr := F.fr
  cells := fun x hx => let ⟨c, v, e1, ⟨co, e2, e2'⟩, e3⟩ := F.cells x hx; ⟨c, v, e1, ⟨co, k _ _ (fun q => (hw c q).1 e3.1) e2, e2'⟩, e3⟩
  inj := F.inj
  nofree := F.nofree
theorem FIs.narrow {w : World} {env : Env} {Zo Z Wl : List Addr} {hb : Heap} {r : Rho} {h : Heap} (F : FIs w env Zo (Wl ++ Z) hb r h) : FIs w env Zo Z hb r h where
  e := by
    have gr : ∀ d v, Rd w h (Zo ++ (Wl ++ Z)) d v → Rd w h (Zo ++ Z) d v := fun d v x => x.mono (.of_keeps fun _ _ e => e) fun b hb => by
      simp only [List.mem_append] at hb ⊢
      exact hb.imp id .inr
    refine ⟨F.e.wd, fun z hz => F.e.z z ?_, ?_, fun x d e q => ?_, F.e.kd, F.e.gl, F.e.bi⟩
    · simp only [List.mem_append] at hz ⊢
      exact hz.imp id .inr
    · obtain ⟨m, hn, hm⟩ := F.e.ns
      exact ⟨m, hn, fun x d e q => let ⟨v, e1, e2⟩ := hm x d e q; ⟨v, e1, gr _ _ e2⟩⟩
    · obtain ⟨c, v, e1, e2, e3⟩ := F.e.cl x d e q
      exact ⟨c, v, e1, e2, gr _ _ e3⟩
  kp := F.kp
  wd := F.wd
  ln := F.ln
  fr := F.fr
  cells := F.cells
  inj := F.inj
  nofree := F.nofree

inductive Fl where
  | nxt
  | ret (d : D)
  | brk
  | cnt
noncomputable def FlRd (w : World) (h : Heap) (Z : List Addr) : Fl → Flow → Prop
  | .nxt, f => f = .next
  | .brk, f => f = .brk
  | .cnt, f => f = .cont
  | .ret d, f => ∃ v, f = .ret v ∧ Rd w h Z d v
structure Same (Zo : List Addr) (s s' : Shared) : Prop where
  eq : s' = { s with heap := s'.heap, toks := s'.toks }
  k : ExtZ Zo s.heap s'.heap
theorem Same.refl {Zo : List Addr} (s : Shared) : Same Zo s s := ⟨rfl, fun _ _ _ e => e⟩
theorem Same.trans {Zo : List Addr} {s s' s'' : Shared} (x : Same Zo s s') (y : Same Zo s' s'') : Same Zo s s'' :=
  ⟨by rw [y.eq, x.eq], fun b o hb e => y.k b o hb (x.k b o hb e)⟩
theorem Kp.same {Zo : List Addr} {s s' : Shared} (x : Kp s s') : Same Zo s s' := ⟨x.eq, fun b o _ e => x.k b o e⟩

noncomputable def X (w : World) (n : Nat) (env : Env) (r : Rho) (t : Sem Flow) (P : Fl → Rho → Prop) : Prop :=
  ∀ A s Zo Z hb, AOk n A → FIs w env Zo Z hb r s.heap → wpAny (MM w) A t (fun fl s' => ∃ f r', P f r' ∧ FlRd w s'.heap (Zo ++ Z) f fl ∧ FIs w env Zo Z hb r' s'.heap ∧ Same Zo s s') NoE s

section
variable {w : World} {n : Nat} {env : Env} {r : Rho} {P : Fl → Rho → Prop} {rest : List Stmt}

theorem X.weak {r' : Rho} {t : Sem Flow} (le : ∀ x d, r' x = some d → r x = some d) (h : X w n env r' t P) : X w n env r t P := fun A s Zo Z hb ao F => h A s Zo Z hb ao (F.weak le)
theorem X.mono {P' : Fl → Rho → Prop} {t : Sem Flow} (h : X w n env r t P) (hP : ∀ f r', P f r' → P' f r') : X w n env r t P' := fun A s Zo Z hb ao F =>
  wpAny_mono (h A s Zo Z hb ao F) (fun _ _ ⟨f, r', p, q⟩ => ⟨f, r', hP _ _ p, q⟩) fun _ _ e => e

theorem X.nil (h : P .nxt r) : X w n env r (execs [] env) P := fun A s Zo Z hb ao F => wpAny_execs_nil ⟨.nxt, r, h, rfl, F, .refl _⟩

noncomputable def Beh (w : World) (n : Nat) (env : Env) (rest : List Stmt) (P : Fl → Rho → Prop) : Fl → Rho → Prop
  | .nxt, r => X w n env r (execs rest env) P
  | f, r => P f r
theorem X.seq {st : Stmt} (h : X w n env r (exec st env) (Beh w n env rest P)) : X w n env r (execs (st :: rest) env) P := fun A s Zo Z hb ao F => by
  refine wpAny_execs_cons (wpAny_mono (h A s Zo Z hb ao F) (fun fl s' hZ => ?_) fun _ _ e => e)
  obtain ⟨f, r', p, q, F', e⟩ := hZ
  cases f with
  | nxt =>
    cases q
    exact wpAny_mono (p A s' Zo Z hb ao F') (fun fl' s'' ⟨f, r'', p', q', F'', e'⟩ => ⟨f, r'', p', q', F'', e.trans e'⟩) fun _ _ e => e
  | brk => cases q; exact ⟨.brk, r', p, rfl, F', e⟩
  | cnt => cases q; exact ⟨.cnt, r', p, rfl, F', e⟩
  | ret d =>
    obtain ⟨v, rfl, rd⟩ := q
    exact ⟨.ret d, r', p, ⟨v, rfl, rd⟩, F', e⟩

theorem X.ret {e : Expr} {pos : Pos} {d : D} (he : Y w n env r (eval e env) d) (h : P (.ret d) r) : X w n env r (execs (.Return (some e) pos :: rest) env) P :=
  X.seq fun A s Zo Z hb ao F => wpAny_Return_some (wpAny_mono (he A s _ ao F.e) (fun v s' ⟨k, rd⟩ => ⟨.ret d, r, h, ⟨v, rfl, rd⟩, F.keeps k.k, k.same⟩) fun _ _ e => e)

theorem store_loc {A : Around} {s : Shared} {Zo Z : List Addr} {hb : Heap} {x : Str} {d : D} {v : Value} {Q : Unit → Shared → Prop} (F : FIs w env Zo Z hb r s.heap) (rd : Rd w s.heap (Zo ++ Z) d v)
    (hx : env.kindOf x = some .local) (h : ∀ s', FIs w env Zo Z hb (rset r x d) s'.heap → Same Zo s s' → ExtZ Zo s.heap s'.heap → Q () s') : wpAny (MM w) A (storeName env x v) Q NoE s := by
  obtain ⟨m, hn, hm⟩ := F.e.ns
  have hp : (env.scope.kind == .class || (env.scope.kind == .module && env.locals != env.globals)) = false := by rw [F.e.kd]; rfl
  refine wpAny_storeName_local hx hn (fun h' hn' hs => h _ ?_ ⟨rfl, ?_⟩ ?_) hp
  · have ez : ExtZ Zo s.heap h' := fun b o hb e => (hs.2 b (fun q => hb (q ▸ F.ln))).trans e
    have ex : ExtZ (Zo ++ Z) s.heap h' := fun b o hb e => ez b o (fun q => hb (List.mem_append_left _ q)) e
    have kp : ∀ b o, hb.get? b = some o → h'.get? b = some o := fun b o e => ez b o (fun q => by rw [F.fr b q] at e; cases e) (F.kp b o e)
    refine ⟨⟨F.wd.keeps kp, ?_, ⟨_, hn', ?_⟩, ?_, F.e.kd, F.e.gl, F.e.bi⟩, kp, F.wd, F.ln, F.fr, ?_, F.inj, F.nofree⟩
    · intro z hz
      obtain ⟨a, o, e⟩ := F.e.z z hz
      by_cases q : z = env.locals
      · subst q
        obtain ⟨ol, _, _, hl, _⟩ := hn'
        exact ⟨a, ol, hl⟩
      · exact ⟨a, o, (hs.2 z q).trans e⟩
    · intro y d' e hy
      by_cases q : y = x
      · subst q
        simp only [rset, if_true] at e ⊢
        cases e
        exact ⟨v, rfl, rd.mono ex fun _ q => q⟩
      · simp only [rset, if_neg q] at e ⊢
        obtain ⟨u, e1, e2⟩ := hm y d' e hy
        exact ⟨u, e1, e2.mono ex fun _ q => q⟩
    · intro y d' e hy
      have q : y ≠ x := fun q => by subst q; rw [hx] at hy; rcases hy with hy | hy <;> cases hy
      simp only [rset, if_neg q] at e
      obtain ⟨c, u, e1, ⟨co, e2, e2'⟩, e3⟩ := F.e.cl y d' e hy
      refine ⟨c, u, e1, ⟨co, (hs.2 c ?_).trans e2, e2'⟩, e3.mono ex fun _ q => q⟩
      rintro rfl
      obtain ⟨ol, es, ep, hl, hd, _⟩ := hn
      rw [hl] at e2; cases e2
      rw [hd] at e2'; cases e2'
    · intro y hy
      obtain ⟨c, u, e1, ⟨co, e2, e2'⟩, e3, e4⟩ := F.cells y hy
      exact ⟨c, u, e1, ⟨co, (hs.2 c e4).trans e2, e2'⟩, e3, e4⟩
  · exact fun b o hb e => (hs.2 b (fun q => hb (q ▸ F.ln))).trans e
  · exact fun b o hb e => (hs.2 b (fun q => hb (q ▸ F.ln))).trans e

theorem store_cell {A : Around} {s : Shared} {Zo Z : List Addr} {hb : Heap} {x : Str} {d : D} {v : Value} {Q : Unit → Shared → Prop} (F : FIs w env Zo Z hb r s.heap) (rd : Rd w s.heap (Zo ++ Z) d v)
    (hx : env.kindOf x = some .cell) (h : ∀ s', FIs w env Zo Z hb (rset r x d) s'.heap → Same Zo s s' → ExtZ Zo s.heap s'.heap → Q () s') : wpAny (MM w) A (storeName env x v) Q NoE s := by
  obtain ⟨c, v0, hc, hv, hz, hl⟩ := F.cells x hx
  refine wpAny_storeName_cell F.e.kd hx hc hv fun h' hv' hs => h _ ?_ ⟨rfl, ?_⟩ ?_
  · have ez : ExtZ Zo s.heap h' := fun b o hb e => (hs.2 b (fun q => hb (q ▸ hz))).trans e
    have ex : ExtZ (Zo ++ Z) s.heap h' := fun b o hb e => ez b o (fun q => hb (List.mem_append_left _ q)) e
    have kp : ∀ b o, hb.get? b = some o → h'.get? b = some o := fun b o e => ez b o (fun q => by rw [F.fr b q] at e; cases e) (F.kp b o e)
    obtain ⟨m, hn, hm⟩ := F.e.ns
    refine ⟨⟨F.wd.keeps kp, ?_, ⟨m, hn.sameBut hs (Ne.symm hl), ?_⟩, ?_, F.e.kd, F.e.gl, F.e.bi⟩, kp, F.wd, F.ln, F.fr, ?_, F.inj, F.nofree⟩
    · intro z hz
      obtain ⟨a, o, e⟩ := F.e.z z hz
      by_cases q : z = c
      · subst q
        obtain ⟨ol, hl, _⟩ := hv'
        exact ⟨a, ol, hl⟩
      · exact ⟨a, o, (hs.2 z q).trans e⟩
    · intro y d' e hy
      have q : y ≠ x := fun q => by subst q; rw [hx] at hy; cases hy
      simp only [rset, if_neg q] at e
      obtain ⟨u, e1, e2⟩ := hm y d' e hy
      exact ⟨u, e1, e2.mono ex fun _ q => q⟩
    · intro y d' e hy
      by_cases q : y = x
      · subst q
        simp only [rset, if_true] at e
        cases e
        exact ⟨c, v, hc, hv', rd.mono ex fun _ q => q⟩
      · simp only [rset, if_neg q] at e
        obtain ⟨c2, u, e1, ⟨co, e2, e2'⟩, e3⟩ := F.e.cl y d' e hy
        refine ⟨c2, u, e1, ⟨co, (hs.2 c2 ?_).trans e2, e2'⟩, e3.mono ex fun _ q => q⟩
        rintro rfl
        rcases hy with hy | hy
        · exact q (F.inj _ _ _ hy hx e1 hc)
        · exact F.nofree _ hy
    · intro y hy
      obtain ⟨c2, u, e1, ⟨co, e2, e2'⟩, e3, e4⟩ := F.cells y hy
      by_cases q : c2 = c
      · subst q
        exact ⟨c2, _, e1, hv', e3, e4⟩
      · exact ⟨c2, u, e1, ⟨co, (hs.2 c2 q).trans e2, e2'⟩, e3, e4⟩
  · exact fun b o hb e => (hs.2 b (fun q => hb (q ▸ hz))).trans e
  · exact fun b o hb e => (hs.2 b (fun q => hb (q ▸ hz))).trans e

theorem store_name {A : Around} {s : Shared} {Zo Z : List Addr} {hb : Heap} {x : Str} {d : D} {v : Value} {Q : Unit → Shared → Prop} (F : FIs w env Zo Z hb r s.heap) (rd : Rd w s.heap (Zo ++ Z) d v)
    (hx : env.kindOf x = some .local ∨ env.kindOf x = some .cell) (h : ∀ s', FIs w env Zo Z hb (rset r x d) s'.heap → Same Zo s s' → ExtZ Zo s.heap s'.heap → Q () s') : wpAny (MM w) A (storeName env x v) Q NoE s :=
  hx.elim (fun hx => store_loc F rd hx h) fun hx => store_cell F rd hx h

theorem X.assign {x : Str} {p pos : Pos} {e : Expr} {d : D} (he : Y w n env r (eval e env) d) (hx : env.kindOf x = some .local ∨ env.kindOf x = some .cell) (hsw : swapsWith e (some (.Name x p)) pos.line env = pure false)
    (h : X w n env (rset r x d) (execs rest env) P) : X w n env r (execs (.Assign [.Name x p] e pos :: rest) env) P :=
  X.seq fun A s Zo Z hb ao F => wpAny_Assign_Name (wpAny_mono (he A s _ ao F.e) (fun v s' ⟨k, rd⟩ =>
    store_name (F.keeps k.k) rd hx fun s'' F' e _ => ⟨.nxt, _, h, rfl, F', Same.trans k.same e⟩) fun _ _ e => e) hsw

theorem X.ifs {test : Expr} {body orelse : List Stmt} {pos : Pos} {b : Bool} (ht : YB w n env r (isTrue test env (eval test env)) b) (h1 : b = true → X w n env r (execs body env) (Beh w n env rest P))
    (h2 : b = false → X w n env r (execs orelse env) (Beh w n env rest P)) : X w n env r (execs (.If test body orelse pos :: rest) env) P :=
  X.seq fun A s Zo Z hb ao F => wpAny_If (wpAny_mono (ht A s _ ao F.e) (fun v s' ⟨k, e⟩ => by
    subst e
    cases v with
    | true => exact wpAny_mono (h1 rfl A s' Zo Z hb ao (F.keeps k.k)) (fun _ _ ⟨f, r', p, q, F', e⟩ => ⟨f, r', p, q, F', Same.trans k.same e⟩) fun _ _ e => e
    | false => exact wpAny_mono (h2 rfl A s' Zo Z hb ao (F.keeps k.k)) (fun _ _ ⟨f, r', p, q, F', e⟩ => ⟨f, r', p, q, F', Same.trans k.same e⟩) fun _ _ e => e) fun _ _ e => e)

theorem X.while {test : Expr} {body : List Stmt} {pos : Pos} (I : Nat → Rho → Prop) (m : Nat) (h0 : I m r)
    (turn : ∀ m r, I m r → ∃ b, YB w n env r (isTrue test env (eval test env)) b ∧
      (b = true → X w n env r (execs body env) (fun f r' => match f with | .nxt | .cnt => ∃ m', m' < m ∧ I m' r' | .brk => X w n env r' (execs rest env) P | .ret d => P (.ret d) r')) ∧
      (b = false → X w n env r (execs rest env) P)) :
    X w n env r (execs (.While test body [] pos :: rest) env) P :=
  X.seq fun A s Zo Z hb ao F => by
    refine wpAny_While (codeAny_whileLoop (fun m s' => ∃ r', I m r' ∧ FIs w env Zo Z hb r' s'.heap ∧ Same Zo s s') (fun m s1 hZ => ?_) m ⟨r, h0, F, .refl _⟩)
    obtain ⟨r1, i1, F1, e1⟩ := hZ
    obtain ⟨b, hb', ht, hf⟩ := turn m r1 i1
    refine wpAny_mono (hb' A s1 _ ao F1.e) (fun b' s2 ⟨k, e⟩ => ?_) fun _ _ e => e.elim
    subst e
    have e2 : Same Zo s s2 := e1.trans k.same
    cases b' with
    | true =>
      refine wpAny_mono (ht rfl A s2 Zo Z hb ao (F1.keeps k.k)) (fun fl s3 hZ => ?_) fun _ _ e => e.elim
      obtain ⟨f, r', p, q, F', e⟩ := hZ
      cases f with
      | nxt => cases q; obtain ⟨m', lt, i'⟩ := p; exact ⟨m', lt, r', i', F', e2.trans e⟩
      | cnt => cases q; obtain ⟨m', lt, i'⟩ := p; exact ⟨m', lt, r', i', F', e2.trans e⟩
      | brk => cases q; exact ⟨.nxt, r', p, rfl, F', e2.trans e⟩
      | ret d => obtain ⟨v, rfl, rd⟩ := q; exact ⟨.ret d, r', p, ⟨v, rfl, rd⟩, F', e2.trans e⟩
    | false =>
      exact wpAny_execs_nil ⟨.nxt, r1, hf rfl, rfl, F1.keeps k.k, e2⟩
end
end Uni
namespace Uni

noncomputable def rargs : List Str → List D → Rho
  | p :: ps, d :: ds => rset (rargs ps ds) p d
  | _, _ => fun _ => none
theorem rargs_none : ∀ {ps : List Str} {ds : List D} {x : Str}, x ∉ ps → rargs ps ds x = none
  | [], _, _, _ => by simp [rargs]
  | p :: ps, [], _, _ => by simp [rargs]
  | p :: ps, d :: ds, x, h => by
    have h1 : x ≠ p := fun e => h (e ▸ List.mem_cons_self)
    simp only [rargs, rset, if_neg h1]
    exact rargs_none fun e => h (List.mem_cons_of_mem _ e)

theorem bindL_skip (K : Str → Option NameKind) : ∀ {ps : List Str} {vs : List Value} {m : Str → Option Value} {x : Str}, x ∉ ps → bindL K (ps.zip vs) m x = m x
  | [], _, _, _, _ => by simp [bindL]
  | p :: ps, [], _, _, _ => by simp [bindL]
  | p :: ps, v :: vs, m, x, h => by
    have h1 : x ≠ p := fun e => h (e ▸ List.mem_cons_self)
    rw [List.zip_cons_cons, bindL, bindL_skip K fun e => h (List.mem_cons_of_mem _ e)]
    split
    · simp [h1]
    · rfl
theorem bindC_skip (K : Str → Option NameKind) : ∀ {ps : List Str} {vs : List Value} {m : Str → Option Value} {x : Str}, x ∉ ps → bindC K (ps.zip vs) m x = m x
  | [], _, _, _, _ => by simp [bindC]
  | p :: ps, [], _, _, _ => by simp [bindC]
  | p :: ps, v :: vs, m, x, h => by
    have h1 : x ≠ p := fun e => h (e ▸ List.mem_cons_self)
    rw [List.zip_cons_cons, bindC, bindC_skip K fun e => h (List.mem_cons_of_mem _ e)]
    split
    · rfl
    · simp [h1]
theorem bindL_get {w : World} {h : Heap} {Z : List Addr} (K : Str → Option NameKind) : ∀ {ps : List Str} {ds : List D} {vs : List Value} {m : Str → Option Value} {x : Str} {d : D}, Rds w h Z ds vs → ps.Nodup → rargs ps ds x = some d → K x = some .local →
    ∃ v, bindL K (ps.zip vs) m x = some v ∧ Rd w h Z d v
  | [], _, _, _, _, _, _, _, e, _ => by simp [rargs] at e
  | p :: ps, [], _, _, _, _, _, _, e, _ => by simp [rargs] at e
  | p :: ps, d0 :: ds, _, m, x, d, r, nd, e, hk => by
    obtain ⟨v, vs, rfl, h1, h2⟩ := r
    have nd' := List.nodup_cons.mp nd
    rw [List.zip_cons_cons, bindL]
    by_cases q : x = p
    · subst q
      simp only [rargs, rset, if_true] at e
      cases e
      rw [bindL_skip K nd'.1, if_pos hk]
      exact ⟨v, by simp, h1⟩
    · simp only [rargs, rset, if_neg q] at e
      exact bindL_get K h2 nd'.2 e hk
theorem bindC_get {w : World} {h : Heap} {Z : List Addr} (K : Str → Option NameKind) : ∀ {ps : List Str} {ds : List D} {vs : List Value} {m : Str → Option Value} {x : Str} {d : D}, Rds w h Z ds vs → ps.Nodup → rargs ps ds x = some d → K x = some .cell →
    ∃ v, bindC K (ps.zip vs) m x = some v ∧ Rd w h Z d v
  | [], _, _, _, _, _, _, _, e, _ => by simp [rargs] at e
  | p :: ps, [], _, _, _, _, _, _, e, _ => by simp [rargs] at e
  | p :: ps, d0 :: ds, _, m, x, d, r, nd, e, hk => by
    obtain ⟨v, vs, rfl, h1, h2⟩ := r
    have nd' := List.nodup_cons.mp nd
    rw [List.zip_cons_cons, bindC]
    by_cases q : x = p
    · subst q
      simp only [rargs, rset, if_true] at e
      cases e
      rw [bindC_skip K nd'.1, if_neg (by rw [hk]; decide)]
      exact ⟨v, by simp, h1⟩
    · simp only [rargs, rset, if_neg q] at e
      exact bindC_get K h2 nd'.2 e hk

theorem AOk.deeper {n : Nat} {A : Around} {env : Env} (x : AOk (n + 1) A) : AOk n (A.deeper env) :=
  ⟨x.hd, by have := x.dp; show A.depth + 1 + n < _; apply Ar.d3 <;> assumption, by have := x.un; show A.units + 3 + 100 * n < _; lia⟩

noncomputable abbrev Ans (d : D) : Fl → Rho → Prop := fun f _ => f = .ret d ∨ (f = .nxt ∧ d = .none)

theorem cell_some {x : Str} {names : List (Str × NameKind)} {n : Nat} (h : names.lookup x = some .cell) : ((cellsFrom n names []).lookup x).isSome = true := cellsFrom_some names n [] (.inl h)

theorem notGrown {h : Heap} {Z Zo : List Addr} {a : Addr} {o : Obj} (h1 : a ∉ Z) (h2 : h.get? a = some o) (z : ∀ b ∈ Zo, h.get? b = none) : a ∉ Zo ++ Z := fun q =>
  (List.mem_append.mp q).elim (fun q => by rw [z a q] at h2; cases h2) h1
mutual
theorem Rd.grow {w : World} {h h' : Heap} {Z Zo : List Addr} (k : ∀ b o, h.get? b = some o → h'.get? b = some o) (z : ∀ b ∈ Zo, h.get? b = none) : ∀ (d : D) (v : Value), Rd w h Z d v → Rd w h' (Zo ++ Z) d v
  | .none, _, r => r
  | .bool _, _, r => r
  | .int _, _, r => r
  | .str _, _, r => r
  | .any, _, r => r
  | .own _, _, r => r
  | .fn _, _, r => r
  | .tup l, v, r => by
    obtain ⟨a, vs, n, h1, h2, h3, h4⟩ := r
    exact ⟨a, vs, n, h1, notGrown h2 h3 z, k _ _ h3, Rds.growL k z l _ h4⟩
  | .lst l, v, r => by
    obtain ⟨a, vs, n, h1, h2, h3, h4⟩ := r
    exact ⟨a, vs, n, h1, notGrown h2 h3 z, k _ _ h3, Rds.growL k z l _ h4⟩
  | .dct l, v, r => by
    obtain ⟨a, vs, n, h1, h2, h3, h4, h5⟩ := r
    exact ⟨a, vs, n, h1, notGrown h2 h3 z, k _ _ h3, Rde.grow k z l _ h4, h5⟩
  | .inst c l, v, r => by
    obtain ⟨a, dx, vs, n, h1, h2, h3, h4, h5, h6⟩ := r
    exact ⟨a, dx, vs, n, h1, notGrown h2 h4 z, notGrown h3 h5 z, k _ _ h4, k _ _ h5, Rde.grow k z l _ h6⟩
  | .meth f d, v, r => by
    obtain ⟨a, u, h1, h2, h3, h4⟩ := r
    exact ⟨a, u, h1, notGrown h2 h3 z, k _ _ h3, Rd.grow k z d _ h4⟩
  | .lam e sc ps x d, v, r => by
    obtain ⟨a, c, u, h1, h2, h3, h4, ⟨co, h5, h5'⟩, h6⟩ := r
    obtain ⟨o, fd, g1, g2, g3, g4, g5, g6, g7, g8, cc, oc, vs, t, g15, g16, g17, g18, g19⟩ := h4.ex
    exact ⟨a, c, u, h1, notGrown h2 g1 z, notGrown h3 h5 z, ⟨o, fd, k _ _ g1, g2, g3, g4, g5, g6, g7, g8, cc, oc, vs, t, g15, notGrown g16 g17 z, k _ _ g17, g18, g19⟩, ⟨co, k _ _ h5, h5'⟩, Rd.grow k z d _ h6⟩
theorem Rds.growL {w : World} {h h' : Heap} {Z Zo : List Addr} (k : ∀ b o, h.get? b = some o → h'.get? b = some o) (z : ∀ b ∈ Zo, h.get? b = none) : ∀ (d : List D) (v : List Value), Rds w h Z d v → Rds w h' (Zo ++ Z) d v
  | [], _, r => r
  | d :: ds, vs, r => by
    obtain ⟨v, r', h1, h2, h3⟩ := r
    exact ⟨v, r', h1, Rd.grow k z d _ h2, Rds.growL k z ds _ h3⟩
theorem Rde.grow {w : World} {h h' : Heap} {Z Zo : List Addr} (k : ∀ b o, h.get? b = some o → h'.get? b = some o) (z : ∀ b ∈ Zo, h.get? b = none) : ∀ (d : List (Str × D)) (v : List DictEntry), Rde w h Z d v → Rde w h' (Zo ++ Z) d v
  | [], _, r => r
  | p :: ps, es, r => by
    obtain ⟨e, r', t, h1, h2, h2', h3, h4⟩ := r
    exact ⟨e, r', t, h1, h2, h2', Rd.grow k z p.2 _ h3, Rde.grow k z ps _ h4⟩
end
theorem Rds.grow {w : World} {h h' : Heap} {Z Zo : List Addr} {d : List D} {v : List Value} (r : Rds w h Z d v) (k : ∀ b o, h.get? b = some o → h'.get? b = some o) (z : ∀ b ∈ Zo, h.get? b = none) : Rds w h' (Zo ++ Z) d v := Rds.growL k z d v r

theorem body_of {w : World} {n : Nat} {f : Addr} {fd : FuncData} {body : List Stmt} {ps : List Str} {ds : List D} {d : D} {A : Around} {s s₁ : Shared} {Z : List Addr} {vs : List Value}
    (gl : fd.globals = mainGlobals) (bi : fd.builtins = builtinsNs) (hnd : ps.Nodup) (hk : fd.scope.kind = .function) (hfree : ∀ p ∈ fd.scope.names, p.2 ≠ .free)
    (h : ∀ env, env.scope = fd.scope → X w n env (rargs ps ds) (execs body env) (Ans d))
    (ao : AOk (n + 1) A) (W : Wd w s.heap) (hz : ZOk w Z s.heap) (rd : Rds w s.heap Z ds vs)
    (x : InCallC s (callEnvC fd s.heap.objs.size f).locals (bindL (callEnvC fd s.heap.objs.size f).kindOf (ps.zip vs) fun _ => none) (callEnvC fd s.heap.objs.size f).cells
        (bindC (callEnvC fd s.heap.objs.size f).kindOf (ps.zip vs) fun _ => none) s₁) :
    wpAny (MM w) (A.deeper (callEnvC fd s.heap.objs.size f)) (execs body (callEnvC fd s.heap.objs.size f)) (fun fl s' => Kp s s' ∧ Rd w s'.heap Z d (match fl with | .ret v => v | _ => .none)) NoE s₁ := by
  obtain ⟨h₁, tk, e1, k1⟩ := x.done
  subst e1
  have W1 := W.keeps k1
  have below : ∀ b o, s.heap.get? b = some o → b < s.heap.objs.size := fun b o e => Heap.lt_size e
  have fresh : ∀ b, s.heap.objs.size ≤ b → s.heap.get? b = none := fun b hb => by
    cases q : s.heap.get? b with
    | none => rfl
    | some o => exact absurd (below b o q) (Nat.not_lt.mpr hb)
  have kfresh : ∀ b, s.heap.objs.size ≤ b → (KK w).lookup b = none := fun b hb => by
    cases q : (KK w).lookup b with
    | none => rfl
    | some o => have := W.k _ _ q; rw [fresh b hb] at this; cases this
  let L := s.heap.objs.size
  let env := callEnvC fd L f
  let Zo := L :: fd.scope.names.filterMap fun p => env.cells.lookup p.1
  have hzo : ∀ z ∈ Zo, L ≤ z ∧ ∃ o, h₁.get? z = some o := fun z hzm => by
    rcases List.mem_cons.mp hzm with rfl | hm
    · obtain ⟨o, _, _, e, _⟩ := x.toInCall.ns
      exact ⟨Nat.le_refl _, o, e⟩
    · obtain ⟨p, hp, hl⟩ := List.mem_filterMap.mp hm
      obtain ⟨o, e, _⟩ := x.cell _ _ hl
      exact ⟨Nat.le_of_lt (x.above _ _ (mem_of_lookup hl)), o, e⟩
  have inZo : ∀ y c, env.kindOf y = some .cell → env.cells.lookup y = some c → c ∈ Zo := fun y c hy hc =>
    List.mem_cons_of_mem _ (List.mem_filterMap.mpr ⟨(y, .cell), mem_of_lookup (l := fd.scope.names) hy, hc⟩)
  have nofr : ∀ y, env.kindOf y ≠ some .free := fun y hy => hfree _ (mem_of_lookup (l := fd.scope.names) hy) rfl
  have rd1 := rd.mono (.of_keeps k1) fun _ q => q
  have rdz : Rds w h₁ (Zo ++ Z) ds vs := Rds.grow rd k1 fun z hz => fresh z (hzo z hz).1
  have F : FIs w env Zo Z s.heap (rargs ps ds) h₁ := by
    refine ⟨⟨W1, ?_, ⟨_, x.toInCall.ns, fun y d' e hy => bindL_get _ rdz hnd e hy⟩, ?_, hk, gl, bi⟩, k1, W, List.mem_cons_self, fun z hz => fresh z (hzo z hz).1, ?_, ?_, ?_⟩
    · intro z hzm
      rcases List.mem_append.mp hzm with q | q
      · exact ⟨kfresh z (hzo z q).1, (hzo z q).2⟩
      · obtain ⟨a, o, e⟩ := hz z q
        exact ⟨a, o, k1 _ _ e⟩
    · intro y d' e hy
      have hy : env.kindOf y = some .cell := hy.resolve_right (nofr y)
      obtain ⟨c, hc⟩ := Option.isSome_iff_exists.mp (cell_some (n := L + 1) (names := fd.scope.names) hy)
      obtain ⟨v, e1, e2⟩ := bindC_get (m := fun _ => none) _ rdz hnd e hy
      have := x.cell y c hc
      rw [e1] at this
      exact ⟨c, v, hc, this, e2⟩
    · intro y hy
      obtain ⟨c, hc⟩ := Option.isSome_iff_exists.mp (cell_some (n := L + 1) (names := fd.scope.names) hy)
      exact ⟨c, _, hc, x.cell y c hc, inZo y c hy hc, Nat.ne_of_gt (x.above _ _ (mem_of_lookup hc))⟩
    · intro y y' c _ _ h1 h2
      exact name_of_addr x.apart (mem_of_lookup h1) (mem_of_lookup h2)
    · exact nofr
  refine wpAny_mono (h env rfl (A.deeper env) _ Zo Z s.heap ao.deeper F) (fun fl s' ⟨f', r', hp, q, F', e⟩ => ⟨⟨?_, F'.kp⟩, ?_⟩) fun _ _ e => e
  · have e' := e.eq
    rw [e']
  · rcases hp with rfl | ⟨rfl, rfl⟩
    · obtain ⟨v, rfl, rv⟩ := q
      exact rv.mono (.of_keeps fun _ _ e => e) fun _ q => List.mem_append_right _ q
    · cases q
      rfl

structure DefAt (w : World) (f : Addr) (fd : FuncData) : Prop where
  at_ : ∃ oc od osl, (KK w).lookup f = some ⟨oc, od, .func fd, osl⟩
  code : codeIn (KK w) fd.code fd.qualname = true
  clo : fd.closure = []
  gl : fd.globals = mainGlobals
  bi : fd.builtins = builtinsNs
  co : fd.scope.isCoroutine = false
  gen : fd.scope.isGenerator = false
  kd : fd.scope.kind = .function
  free : ∀ p ∈ fd.scope.names, p.2 ≠ .free

theorem call_of {w : World} {n : Nat} {f : Addr} {fd : FuncData} {body : List Stmt} {ps : List Str} {ds : List D} {d : D} (hD : DefAt w f fd) (hb : fd.body = .stmts body)
    (hbind : ∀ vs : List Value, vs.length = ds.length → bindArgs fd ⟨vs, []⟩ = pure (ps.zip vs)) (hps : ∀ p ∈ ps, fd.scope.names.lookup p = some .local ∨ fd.scope.names.lookup p = some .cell) (hnd : ps.Nodup)
    (h : ∀ env, env.scope = fd.scope → X w n env (rargs ps ds) (execs body env) (Ans d)) : CallOK w (n + 1) f ds d := fun A s Z vs ao W hz rd => by
  obtain ⟨oc, od, osl, hK⟩ := hD.at_
  refine codeAny_call_cells (fd := fd) (body := body) (binds := ps.zip vs) (by have := ao.dp; apply Ar.b6 <;> assumption) (W.k _ _ hK) rfl W.lim (codeRec_of W.k hD.code) hb (hbind vs rd.len) hD.clo ?_ (fun s₁ x => ?_) hD.co hD.gen hD.kd
  · intro p hp
    have := hps p.1 (List.of_mem_zip hp).1
    exact this.imp id fun e => ⟨e, cell_some e⟩
  · exact wpAny_mono (body_of hD.gl hD.bi hnd hD.kd hD.free h ao W hz rd x) (fun fl s' q => ⟨_, rfl, q⟩) fun _ _ e => e.elim

noncomputable def okDef (sc : Scope) (ps : List Str) : Bool :=
  !sc.isCoroutine && !sc.isGenerator && decide (sc.kind = .function) && sc.names.all (fun p => decide (p.2 ≠ .free)) &&
    ps.all (fun p => decide (sc.names.lookup p = some .local) || decide (sc.names.lookup p = some .cell)) && decide ps.Nodup
theorem call_fn {w : World} {n : Nat} {f : Addr} {ps : List Str} {name qual : Str} {params : Arguments} {body : List Stmt} {scope : Scope} {dV kV doc pm cdv ct oc : Value} {an od : Option Addr} {osl : Array (Option Value)} {ds : List D} {d : D}
    (hK : (KK w).lookup f = some ⟨oc, od, .func (fnOf name qual params body scope dV kV doc pm an cdv ct), osl⟩) (hcode : codeIn (KK w) cdv qual = true) (hok : okDef scope ps = true)
    (hbind : ∀ vs : List Value, vs.length = ds.length → bindArgs (fnOf name qual params body scope dV kV doc pm an cdv ct) ⟨vs, []⟩ = pure (ps.zip vs))
    (h : ∀ env, env.scope = scope → X w n env (rargs ps ds) (execs body env) (Ans d)) : CallOK w (n + 1) f ds d := by
  simp only [okDef, Bool.and_eq_true, Bool.not_eq_true', decide_eq_true_eq, List.all_eq_true, Bool.or_eq_true] at hok
  obtain ⟨⟨⟨⟨⟨h1, h2⟩, h3⟩, h4⟩, h5⟩, h6⟩ := hok
  exact call_of (fd := fnOf name qual params body scope dV kV doc pm an cdv ct) ⟨⟨_, _, _, hK⟩, hcode, rfl, rfl, rfl, h1, h2, h3, fun p hp => by simpa using h4 p hp⟩ rfl hbind h5 h6 h
end Uni
namespace Uni
section
variable {w : World} {n : Nat} {env : Env} {r : Rho} {h : Heap} {Z : List Addr}

theorem Rde.get : ∀ {fs : List (Str × D)} {es : List DictEntry} {name : Str} {d : D}, Rde w h Z fs es → fs.lookup name = some d → ∃ v, getL name es = some (some v) ∧ Rd w h Z d v
  | [], _, _, _, _, e => by simp at e
  | p :: ps, _, name, d, rd, e => by
    obtain ⟨en, r', t, rfl, h1, h2, h3, h4⟩ := rd
    unfold getL
    rw [List.lookup_cons] at e
    by_cases q : name == p.1
    · rw [q] at e
      cases e
      have : en.key.isStr name = true := by rw [h1]; simpa [Value.isStr] using (beq_iff_eq.mp q).symm
      rw [List.find?_cons, this]
      exact ⟨en.val, rfl, h3⟩
    · have q' : (name == p.1) = false := by simpa using q
      rw [q'] at e
      have hn : en.key.isStr name = false := by
        rw [h1]
        have : ¬ p.1 = name := fun e => by simp [e] at q'
        simpa [Value.isStr] using this
      obtain ⟨v, e1, e2⟩ := Rde.get h4 e
      rw [List.find?_cons, hn]
      unfold getL at e1
      refine ⟨v, ?_, e2⟩
      split at e1
      · rename_i e' he'
        simp only [he']
        simpa using e1
      · split at e1 <;> simp at e1
theorem Rde.getNone : ∀ {fs : List (Str × D)} {es : List DictEntry} {name : Str}, Rde w h Z fs es → fs.lookup name = none → getL name es = some none ∧ es.any (·.refKey) = false ∧ es.find? (·.key.isStr name) = none
  | [], _, _, rd, _ => by cases rd; exact ⟨rfl, rfl, rfl⟩
  | p :: ps, _, name, rd, e => by
    obtain ⟨en, r', t, rfl, h1, h2, h3, h4⟩ := rd
    rw [List.lookup_cons] at e
    cases q : name == p.1 with
    | true => rw [q] at e; cases e
    | false =>
      rw [q] at e
      have hn : en.key.isStr name = false := by
        rw [h1]
        have : ¬ p.1 = name := fun e => by simp [e] at q
        simpa [Value.isStr] using this
      have hr : en.refKey = false := by simp [DictEntry.refKey, h1]
      obtain ⟨_, e2, e3⟩ := Rde.getNone h4 e
      have e4 : (en :: r').find? (·.key.isStr name) = none := by rw [List.find?_cons, hn]; exact e3
      have e5 : (en :: r').any (·.refKey) = false := by rw [List.any_cons, hr, e2]; rfl
      refine ⟨?_, e5, e4⟩
      unfold getL
      rw [e4]
      simp [e5]

theorem handed {d : D} {v : Value} (rd : Rd w h Z d v) : handedIn v = true := by
  cases d with
  | none => cases rd; rfl
  | bool _ => cases rd; rfl
  | int _ => obtain ⟨_, rfl⟩ := rd; rfl
  | str _ => obtain ⟨_, rfl⟩ := rd; rfl
  | any => exact rd
  | own _ => cases rd; rfl
  | fn _ => cases rd; rfl
  | tup _ => obtain ⟨_, _, _, rfl, _⟩ := rd; rfl
  | lst _ => obtain ⟨_, _, _, rfl, _⟩ := rd; rfl
  | dct _ => obtain ⟨_, _, _, rfl, _⟩ := rd; rfl
  | inst _ _ => obtain ⟨_, _, _, _, rfl, _⟩ := rd; rfl
  | meth _ _ => obtain ⟨_, _, rfl, _⟩ := rd; rfl
  | lam _ _ _ _ _ => obtain ⟨_, _, _, rfl, _⟩ := rd; rfl

theorem instAt {c a dx : Addr} {vs : Array DictEntry} {m : Nat} (h1 : h.get? a = some (instObj c dx)) (h2 : h.get? dx = some (dctO vs m)) : InstAt h a (instObj c dx) c (some (dictOf vs.toList m)) :=
  ⟨h1, rfl, rfl, by simpa [dictOf] using h2⟩

noncomputable def ArgsOk (env : Env) (args : List Expr) (ds : List D) : Prop := (args = [] ∧ ds = []) ∨ ∃ e rest, args = e :: rest ∧ starEach args env = (false, eval e env) :: starEach rest env
theorem ArgsOk.nil : ArgsOk env [] [] := .inl ⟨rfl, rfl⟩
theorem ArgsOk.cons {e : Expr} {rest : List Expr} {ds : List D} (he : starEach (e :: rest) env = (false, eval e env) :: starEach rest env) : ArgsOk env (e :: rest) ds := .inr ⟨e, rest, rfl, he⟩
theorem args_of {A : Around} {s : Shared} {f : Value} {args : List Expr} {pos : Pos} {ds : List D} {Q : Args → Shared → Prop} (ha : Ys w n env r (spliced (backTo pos (starEach args env))) ds) (ao : AOk n A) (F : FIe w env Z r s.heap)
    (hne : ArgsOk env args ds)
    (hq : ∀ vs s', Kp s s' → Rds w s'.heap Z ds vs → Q ⟨vs, []⟩ s') : wpAny (MM w) A (evalArgs f true (backTo pos (starEach args env)) []) Q NoE s := by
  have := ha A s Z ao F
  rcases hne with ⟨rfl, rfl⟩ | ⟨e, rest, rfl, he⟩
  · exact evalArgs_nil3 (hq [] s (Kp.refl s) rfl)
  · rw [he] at this ⊢
    exact evalArgs_plain (wpAny_mono this (fun vs s' q => hq vs s' q.1 q.2) fun _ _ e => e)

structure Callee (w : World) (n : Nat) (df : D) (ds : List D) (d : D) : Prop where
  keep : ∀ h Z v, Wd w h → Rd w h Z df v → ∃ k, (k = Keeper.frame ∨ k = Keeper.machine ∨ k = Keeper.boundFrame) ∧ Looks (MM w) h (keeperOf v) k
  run : ∀ A s Z v vs, AOk n A → Wd w s.heap → ZOk w Z s.heap → Rd w s.heap Z df v → Rds w s.heap Z ds vs → codeAny (MM w) A (.call v ⟨vs, []⟩) (AnsIs w s Z d) s

theorem Callee.fn {f : Addr} {ds : List D} {d : D} (hk : keepIn (KK w) (.ref f) = true) (hc : CallOK w n f ds d) : Callee w n (.fn f) ds d where
  keep := fun h Z v W rd => by cases rd; exact keeps_K hk h W.k
  run := fun A s Z v vs ao W hz rd rds => by cases rd; exact hc A s Z vs ao W hz rds
theorem Callee.meth {f : Addr} {self : D} {ds : List D} {d : D} (hf : fnIn (KK w) f = true) (hc : CallOK w n f (self :: ds) d) : Callee w n (.meth f self) ds d where
  keep := fun h Z v W rd => by
    obtain ⟨a, u, rfl, _, h3, _⟩ := rd
    exact keeps_M hf h ⟨h3, W.k⟩
  run := fun A s Z v vs ao W hz rd rds => by
    obtain ⟨a, u, rfl, _, h3, h4⟩ := rd
    exact method_call h3 (hc A s Z (u :: vs) ao W hz ⟨u, vs, rfl, h4, rds⟩)

theorem callWith_Y {A : Around} {s s₁ : Shared} {args : List Expr} {pos : Pos} {df : D} {f : Value} {ds : List D} {d : D} (hc : Callee w n df ds d) (ha : Ys w n env r (spliced (backTo pos (starEach args env))) ds) (hne : ArgsOk env args ds)
    (hpl : (backTo pos (starEach args env)).any (·.1) = false) (ao : AOk n A) (F : FIe w env Z r s.heap) (rf : Rd w s.heap Z df f) (k0 : Kp s₁ s) :
    wpAny (MM w) A (callWith pos f [] (backTo pos (starEach args env)) []) (fun v s' => Kp s₁ s' ∧ Rd w s'.heap Z d v) NoE s := by
  refine callWith_of (P := fun h => Wd w h ∧ Rd w h Z df f) (by rw [hpl]; rfl) (fun h p => hc.keep h Z f p.1 p.2) (args_of ha ao F hne fun vs s' k rds => ?_)
  have rf' := rf.mono (.of_keeps k.k) fun _ q => q
  have F' := F.keeps k.k
  refine ⟨⟨F'.wd, rf'⟩, wpAny_call (codeAny_mono (hc.run A s' Z f vs ao F'.wd F'.z rf' rds) fun _ _ hZ => ?_)⟩
  obtain ⟨v, e, k', r'⟩ := hZ
  subst e
  exact ⟨(k0.trans k).trans k', r'⟩
theorem Y.callN {x : Str} {p pos : Pos} {args : List Expr} {df : D} {ds : List D} {d : D} (hf : Y w n env r (eval (.Name x p) env) df) (ha : Ys w n env r (spliced (backTo pos (starEach args env))) ds) (hc : Callee w n df ds d) (hne : ArgsOk env args ds)
    (hpl : (backTo pos (starEach args env)).any (·.1) = false) : Y w n env r (eval (.Call (.Name x p) args [] pos) env) d := fun A s Z ao F =>
  wpAny_Call_Name_kw (wpAny_mono (hf A s Z ao F) (fun f s₁ ⟨k1, rf⟩ => callWith_Y hc ha hne hpl ao (F.keeps k1.k) rf k1) fun _ _ e => e)

noncomputable def MethForm (env : Env) (o : Expr) (name : Str) (apos pos : Pos) (args : List Expr) : Prop := ∃ pl, eval (.Call (.Attribute o name apos) args [] pos) env = (do
      let ov ← eval o env
      standAt apos.atName
      let (f, first) ← holding [ov] (getMethod ov name pl)
      callWith pos f first (backTo pos (starEach args env)) [])
structure ClsOk (w : World) (c : Addr) (name : Str) : Prop where
  pg : plainGet (KK w) c name = true
  hd : hasDictIn (KK w) c = true
theorem Y.meth {o : Expr} {name : Str} {apos pos : Pos} {args : List Expr} {c f : Addr} {fs : List (Str × D)} {ds : List D} {d : D} (ho : Y w n env r (eval o env) (.inst c fs)) (hn : fs.lookup name = Option.none) (C : ClsOk w c name)
    (hf : findIn (KK w) (.ref c) name = some (some (.ref f))) (ht : isFn (KK w) (.ref f) = true) (hk : keepIn (KK w) (.ref f) = true) (ha : Ys w n env r (spliced (backTo pos (starEach args env))) ds) (hc : CallOK w n f (.inst c fs :: ds) d)
    (hne : ArgsOk env args ds) (hpl : (backTo pos (starEach args env)).any (·.1) = false) (hm : MethForm env o name apos pos args) : Y w n env r (eval (.Call (.Attribute o name apos) args [] pos) env) d := fun A s Z ao F => by
  obtain ⟨pl, hm⟩ := hm
  refine MethodCall_ (pl := pl) (wpAny_mono (ho A s Z ao F) (fun ov s₁ ⟨k1, rd⟩ => ?_) fun _ _ e => e) hm
  have F1 := F.keeps k1.k
  have rd0 := rd
  obtain ⟨a, dx, vs, m, rfl, z1, z2, h1, h2, h3⟩ := rd
  have hl := (Rde.getNone h3 hn).1
  refine method_fn F1.wd.k (instAt h1 h2) (plainGet_of C.pg).1 (plainGet_of C.pg).2 hf (beq_iff_eq.mp ht) (by show (lookIn name (dictOf vs.toList m)).map _ = _; rw [lookIn_dict, hl]; rfl) ?_
  refine callWith_of (P := fun h => (KK w).In h) (by rw [hpl]; rfl) (keeps_K hk) (args_of ha ao F1 hne fun us s' k rds => ?_)
  have F' := F1.keeps k.k
  refine ⟨F'.wd.k, wpAny_call (codeAny_mono (hc A s' Z (.ref a :: us) ao F'.wd F'.z ⟨_, _, rfl, rd0.mono (.of_keeps k.k) fun _ q => q, rds⟩) fun _ _ hZ => ?_)⟩
  obtain ⟨v, e, k', r'⟩ := hZ
  subst e
  exact ⟨(k1.trans k).trans k', r'⟩
theorem attr_own {A : Around} {s : Shared} {name : Str} {c : Addr} {fs : List (Str × D)} {d : D} {v : Value} {ex : Bool} {Q : Value → Shared → Prop} (W : Wd w s.heap) (rd : Rd w s.heap Z (.inst c fs) v) (hn : fs.lookup name = some d) (C : ClsOk w c name)
    (hf : findIn (KK w) (.ref c) name = some Option.none) (hq : ∀ u, Rd w s.heap Z d u → Q u { s with toks := s.toks + 1 }) : wpAny (MM w) A (getAttr v name ex) Q NoE s := by
  obtain ⟨a, dx, vs, m, rfl, z1, z2, h1, h2, h3⟩ := rd
  obtain ⟨u, e1, e2⟩ := Rde.get h3 hn
  exact get_value W.k (instAt h1 h2) (plainGet_of C.pg).1 (findObj_own C.hd hf rfl (by show lookIn name (dictOf vs.toList m) = _; rw [lookIn_dict]; exact e1)) (handed e2) (hq u e2)
theorem Y.attr {value : Expr} {name : Str} {pos : Pos} {c : Addr} {fs : List (Str × D)} {d : D} (ho : Y w n env r (eval value env) (.inst c fs)) (hn : fs.lookup name = some d) (C : ClsOk w c name)
    (hf : findIn (KK w) (.ref c) name = some Option.none) (hb : attributeBase value name env (eval value env) = eval value env) : Y w n env r (eval (.Attribute value name pos) env) d := fun A s Z ao F => by
  rw [arm_eval_Attribute, hb]
  refine wpAny_bind (wpAny_mono (ho A s Z ao F) (fun v s₁ ⟨k1, rd⟩ => wpAny_bind (wpAny_standAt (wpAny_bind (wpAny_holding (attr_own (F.keeps k1.k).wd rd hn C hf fun u ru => ?_))))) fun _ _ e => e)
  exact wpAny_bind (wpAny_letTemporaryGo (wpAny_pure ⟨k1.trans (Kp.tok _), ru⟩))
theorem Y.attrCall {o : Expr} {name : Str} {apos pos : Pos} {args : List Expr} {c : Addr} {fs : List (Str × D)} {df : D} {ds : List D} {d : D} (ho : Y w n env r (eval o env) (.inst c fs)) (hn : fs.lookup name = some df) (C : ClsOk w c name)
    (hf : findIn (KK w) (.ref c) name = some Option.none) (ha : Ys w n env r (spliced (backTo pos (starEach args env))) ds) (hc : Callee w n df ds d)
    (hne : ArgsOk env args ds) (hpl : (backTo pos (starEach args env)).any (·.1) = false) (hm : MethForm env o name apos pos args) : Y w n env r (eval (.Call (.Attribute o name apos) args [] pos) env) d := fun A s Z ao F => by
  obtain ⟨pl, hm⟩ := hm
  refine MethodCall_ (pl := pl) (wpAny_mono (ho A s Z ao F) (fun ov s₁ ⟨k1, rd⟩ => ?_) fun _ _ e => e) hm
  have F1 := F.keeps k1.k
  have rd0 := rd
  obtain ⟨a, dx, vs, m, rfl, z1, z2, h1, h2, h3⟩ := rd
  refine method_usual F1.wd.k (instAt h1 h2) (plainGet_of C.pg).1 (plainGet_of C.pg).2 hf rfl (attr_own F1.wd rd0 hn C hf fun u ru => ?_)
  have k2 : Kp s { s₁ with toks := s₁.toks + 1 } := k1.trans (Kp.tok _)
  exact callWith_Y hc ha hne hpl ao (F.keeps k2.k) ru k2
theorem Y.bound {value : Expr} {name : Str} {pos : Pos} {c f : Addr} {fs : List (Str × D)} (ho : Y w n env r (eval value env) (.inst c fs)) (hn : fs.lookup name = Option.none) (C : ClsOk w c name)
    (hf : findIn (KK w) (.ref c) name = some (some (.ref f))) (ht : isFn (KK w) (.ref f) = true) (hgf : specialIn (KK w) (.ref f) "__get__" = some (some (.builtin "function.__get__"))) (htk : takesIn (KK w) (.ref f) = some false) (hcp : copiedNames.contains name = false)
    (hb : attributeBase value name env (eval value env) = eval value env) : Y w n env r (eval (.Attribute value name pos) env) (.meth f (.inst c fs)) := fun A s Z ao F => by
  rw [arm_eval_Attribute, hb]
  refine wpAny_bind (wpAny_mono (ho A s Z ao F) (fun v s₁ ⟨k1, rd⟩ => wpAny_bind (wpAny_standAt (wpAny_bind (wpAny_holding ?_)))) fun _ _ e => e)
  have F1 := F.keeps k1.k
  have rd0 := rd
  obtain ⟨a, dx, vs, m, rfl, z1, z2, h1, h2, h3⟩ := rd
  have hl := (Rde.getNone h3 hn).1
  refine get_bind F1.wd.k (instAt h1 h2) (plainGet_of C.pg).1 (findObj_fn C.hd hf hgf htk hcp (by show lookIn name (dictOf vs.toList m) = _; rw [lookIn_dict, hl])) (plainGet_of C.pg).2
    (wpAny_call (fn_get (s := { s₁ with toks := s₁.toks + 1 }) F1.wd.k (beq_iff_eq.mp ht) (handed_on rfl ?_)))
  refine wpAny_bind (wpAny_letTemporaryGo (wpAny_pure ⟨k1.trans (Kp.push _ _), _, _, rfl, F1.z.fresh, Heap.get?_push_size _ rfl, rd0.mono (.of_keeps fun _ _ e => Heap.get?_push_of_some _ e) fun _ q => q⟩))

theorem Stat.int {i : Int} {t : Tok} : Stat w (.int i) (.int i t) := fun _ _ _ _ => ⟨_, rfl⟩
theorem Stat.fn {a : Addr} (_ : fnIn (KK w) a = true) : Stat w (.fn a) (.ref a) := fun _ _ _ _ => rfl
noncomputable def strsOf : List Value → Option (List Str)
  | [] => some []
  | .str x _ :: r => (strsOf r).map (x :: ·)
  | _ => none
theorem strsOf_rds : ∀ {vs : List Value} {ss : List Str}, strsOf vs = some ss → Rds w h Z (ss.map D.str) vs
  | [], _, e => by cases e; rfl
  | .str x t :: r, ss, e => by
    simp only [strsOf, Option.map_eq_some_iff] at e
    obtain ⟨s', e, rfl⟩ := e
    exact ⟨_, _, rfl, ⟨t, rfl⟩, strsOf_rds e⟩
  | .none :: _, _, e => by cases e
  | .bool _ :: _, _, e => by cases e
  | .int _ _ :: _, _, e => by cases e
  | .float _ _ :: _, _, e => by cases e
  | .bytes _ _ :: _, _, e => by cases e
  | .ref _ :: _, _, e => by cases e
  | .type _ :: _, _, e => by cases e
  | .builtin _ :: _, _, e => by cases e
  | .ellipsis :: _, _, e => by cases e
  | .notImplemented :: _, _, e => by cases e
theorem Stat.tup {a : Addr} {vs : List Value} {m : Nat} {ss : List Str} (hK : (KK w).lookup a = some { cls := .type "tuple", dict := none, data := .seq vs.toArray m, slots := #[] }) (hs : strsOf vs = some ss) : Stat w (.tup (ss.map D.str)) (.ref a) := fun h Z W hz =>
  ⟨a, vs.toArray, m, rfl, fun q => (by have := (hz a q).1; rw [hK] at this; cases this), W.k _ _ hK, by simpa using strsOf_rds hs⟩
end
end Uni
namespace Uni
section
variable {w : World} {n : Nat} {env : Env} {r : Rho}
theorem kOf {env : Env} {sc : Scope} {x : Str} {k : NameKind} (hs : env.scope = sc) (e : sc.names.lookup x = some k) : env.kindOf x = some k := by
  show env.scope.names.lookup x = _
  rw [hs]; exact e
namespace S
theorem loc {x pos d} (hx : env.kindOf x = some .local) (e : r x = some d) (hd : (x == ("__debug__" : Str)) = false) : Y w n env r (eval (.Name x pos) env) d := Y.loc e hx hd
theorem cell {x pos d} (hx : env.kindOf x = some .cell) (e : r x = some d) (hd : (x == ("__debug__" : Str)) = false) : Y w n env r (eval (.Name x pos) env) d := Y.cell e hx hd
theorem free {x pos d} (hx : env.kindOf x = some .free) (e : r x = some d) (hd : (x == ("__debug__" : Str)) = false) (hn : (x == ("__classdict__" : Str)) = false) : Y w n env r (eval (.Name x pos) env) d := Y.free e hx hd hn
theorem glob {x pos d v} (hx : env.kindOf x = some .globalImplicit) (e : nsIn (KK w) mainGlobals x = some (some v)) (hd : (x == ("__debug__" : Str)) = false) (st : Stat w d v) : Y w n env r (eval (.Name x pos) env) d := Y.glob e st hx hd
theorem cmpB {op : CmpOp} {l r' : Expr} {pos : Pos} {whole : Sem Value} {a b : D} {c : Bool} (hm : behindInMarks op r' = false) (ha : Y w n env r (eval l env) a) (hb : Y w n env r (eval r' env) b) (hc : CmpOK w n op a b c) :
    YB w n env r (isTrue (.Compare l [op] [r'] pos) env whole) c := YB.cmp ha hb hc hm
theorem cmpV {op : CmpOp} {l r' : Expr} {pos : Pos} {a b : D} {c : Bool} (hm : behindInMarks op r' = false) (ha : Y w n env r (eval l env) a) (hb : Y w n env r (eval r' env) b) (hc : CmpOK w n op a b c) :
    Y w n env r (eval (.Compare l [op] [r'] pos) env) (.bool c) := Y.cmp ha hb hc hm
theorem cmp2B {op1 op2 : CmpOp} {l x1 x2 : Expr} {pos : Pos} {whole : Sem Value} {a b c : D} {c1 c2 : Bool} (hm : behindInMarks op2 x2 = false) (ha : Y w n env r (eval l env) a) (hb : Y w n env r (eval x1 env) b) (hc : Y w n env r (eval x2 env) c)
    (h1 : CmpOK w n op1 a b c1) (h2 : CmpOK w n op2 b c c2) : YB w n env r (isTrue (.Compare l [op1, op2] [x1, x2] pos) env whole) (c1 && c2) := YB.cmp2 ha hb hc h1 h2 hm
theorem cmp2V {op1 op2 : CmpOp} {l x1 x2 : Expr} {pos : Pos} {a b c : D} {c1 c2 : Bool} (hm : behindInMarks op2 x2 = false) (ha : Y w n env r (eval l env) a) (hb : Y w n env r (eval x1 env) b) (hc : Y w n env r (eval x2 env) c)
    (h1 : CmpOK w n op1 a b c1) (h2 : CmpOK w n op2 b c c2) : Y w n env r (eval (.Compare l [op1, op2] [x1, x2] pos) env) (.bool (c1 && c2)) := Y.cmp2 ha hb hc h1 h2 hm
theorem ofB {e : Expr} {b : Bool} (hs : isTrue e env (eval e env) = (do let v ← eval e env; standAt e.pos; holding [v] (truthy v))) (h : Y w n env r (eval e env) (.bool b)) : YB w n env r (isTrue e env (eval e env)) b := YB.of h hs
theorem callN {x : Str} {p pos : Pos} {args : List Expr} {df : D} {ds : List D} {d : D} (hpl : (backTo pos (starEach args env)).any (·.1) = false) (hf : Y w n env r (eval (.Name x p) env) df) (ha : Ys w n env r (spliced (backTo pos (starEach args env))) ds)
    (hne : ArgsOk env args ds) (hc : Callee w n df ds d) : Y w n env r (eval (.Call (.Name x p) args [] pos) env) d := Y.callN hf ha hc hne hpl
theorem consA {pos e rest d ds} (he : starEach (e :: rest) env = (false, eval e env) :: starEach rest env) (hd : Y w n env r (eval e env) d) (hr : Ys w n env r (spliced (backTo pos (starEach rest env))) ds) :
    Ys w n env r (spliced (backTo pos (starEach (e :: rest) env))) (d :: ds) := Ys.cons hd hr he
theorem fnC {f : Addr} {ds : List D} {d : D} (hk : keepIn (KK w) (.ref f) = true) (hc : CallOK w n f ds d) : Callee w n (.fn f) ds d := Callee.fn hk hc
theorem meth {o : Expr} {name : Str} {apos pos : Pos} {args : List Expr} {c f : Addr} {fs : List (Str × D)} {ds : List D} {d : D} (hpl : (backTo pos (starEach args env)).any (·.1) = false) (ho : Y w n env r (eval o env) (.inst c fs)) (hn : fs.lookup name = none)
    (C : ClsOk w c name) (hf : findIn (KK w) (.ref c) name = some (some (.ref f))) (ht : isFn (KK w) (.ref f) = true) (hk : keepIn (KK w) (.ref f) = true) (hm : MethForm env o name apos pos args)
    (ha : Ys w n env r (spliced (backTo pos (starEach args env))) ds) (hne : ArgsOk env args ds) (hc : CallOK w n f (.inst c fs :: ds) d) : Y w n env r (eval (.Call (.Attribute o name apos) args [] pos) env) d :=
  Y.meth ho hn C hf ht hk ha hc hne hpl hm
theorem attrCall {o : Expr} {name : Str} {apos pos : Pos} {args : List Expr} {c : Addr} {fs : List (Str × D)} {df : D} {ds : List D} {d : D} (hpl : (backTo pos (starEach args env)).any (·.1) = false) (ho : Y w n env r (eval o env) (.inst c fs)) (hn : fs.lookup name = some df)
    (C : ClsOk w c name) (hf : findIn (KK w) (.ref c) name = some none) (hm : MethForm env o name apos pos args) (ha : Ys w n env r (spliced (backTo pos (starEach args env))) ds) (hne : ArgsOk env args ds) (hc : Callee w n df ds d) :
    Y w n env r (eval (.Call (.Attribute o name apos) args [] pos) env) d := Y.attrCall ho hn C hf ha hc hne hpl hm
theorem attr {value : Expr} {name : Str} {pos : Pos} {c : Addr} {fs : List (Str × D)} {d : D} (hb : attributeBase value name env (eval value env) = eval value env) (ho : Y w n env r (eval value env) (.inst c fs)) (hn : fs.lookup name = some d) (C : ClsOk w c name)
    (hf : findIn (KK w) (.ref c) name = some none) : Y w n env r (eval (.Attribute value name pos) env) d := Y.attr ho hn C hf hb
end S
end
end Uni
namespace Uni
section
variable {w : World} {n : Nat} {env : Env} {r : Rho} {h : Heap} {Z : List Addr}

theorem rde_keys : ∀ {fs : List (Str × D)} {es : List DictEntry}, Rde w h Z fs es → ∀ e ∈ es, ∃ x t, e.key = .str x t ∧ e.hash = PyData.keyHash w.params x
  | [], _, rd, e, he => by cases rd; cases he
  | p :: ps, _, rd, e, he => by
    obtain ⟨en, r', t, rfl, h1, h2, h3, h4⟩ := rd
    cases he with
    | head => exact ⟨_, t, h1, h2⟩
    | tail _ he => exact rde_keys h4 e he
theorem findBy_getL {name : Str} {vs : Array DictEntry} {r' : Option Value} (e : getL name vs.toList = some r') : findBy Value.isStrOf vs name = r' := by
  obtain ⟨l⟩ := vs
  have q : (fun d : DictEntry => Value.isStrOf name d.key) = fun d => d.key.isStr name := funext fun d => (isStr_of name d.key).symm
  unfold findBy
  rw [List.find?_toArray, q]
  unfold getL at e
  simp only at e
  split at e
  · rename_i e' h'; rw [h']; exact Option.some.inj e
  · rename_i h'
    rw [h']
    split at e
    · cases e
    · exact Option.some.inj e
theorem mapOf_rd {a : Addr} {vs : Array DictEntry} {m : Nat} {es : List (Str × D)} (h1 : h.get? a = some (dctO vs m)) (h2 : Rde w h Z es vs.toList) : h.MapOf (strKind PySem.Challenge.rw_nt0055_01.row.prog w) a (fun k => findBy Value.isStrOf vs k) :=
  ⟨_, vs, m, h1, ⟨rfl, rfl, rfl⟩, rfl, fun e he => by
    obtain ⟨x, t, e1, e2⟩ := rde_keys h2 e (Array.mem_toList_iff.mpr he)
    exact ⟨x, by rw [e1]; exact strKind_is _ w x t, e2⟩, fun _ => rfl⟩
theorem CmpOK.inD {x : Str} {es : List (Str × D)} : CmpOK w n .In (.str x) (.dct es) (es.lookup x).isSome := fun A s Z u v _ _ _ ⟨t, e1⟩ ⟨a, vs, m, e2, z, e3, e4, e5⟩ => by
  subst e1; subst e2
  refine wpAny_in_of (strKind_is _ w x t) e5 (mapOf_rd e3 e4) ⟨Kp.tok _, ?_⟩
  cases q : es.lookup x with
  | none => rw [findBy_getL (Rde.getNone e4 q).1]; rfl
  | some d => obtain ⟨u, f1, _⟩ := Rde.get e4 q; rw [findBy_getL f1]; rfl
theorem CmpOK.ninD {x : Str} {es : List (Str × D)} : CmpOK w n .NotIn (.str x) (.dct es) (!(es.lookup x).isSome) := fun A s Z u v _ _ _ ⟨t, e1⟩ ⟨a, vs, m, e2, z, e3, e4, e5⟩ => by
  subst e1; subst e2
  refine wpAny_notIn_of (strKind_is _ w x t) e5 (mapOf_rd e3 e4) ⟨Kp.tok _, ?_⟩
  cases q : es.lookup x with
  | none => rw [findBy_getL (Rde.getNone e4 q).1]; rfl
  | some d => obtain ⟨u, f1, _⟩ := Rde.get e4 q; rw [findBy_getL f1]; rfl
theorem Y.itemD {value slice : Expr} {pos : Pos} {es : List (Str × D)} {x : Str} {d : D} (hv : Y w n env r (eval value env) (.dct es)) (hi : Y w n env r (eval slice env) (.str x)) (hx : es.lookup x = some d) (hs : PlainSub slice) :
    Y w n env r (eval (.Subscript value slice pos) env) d := fun A s Z ao F => by
  refine Subscript_ (wpAny_mono (hv A s Z ao F) (fun o s₁ ⟨k1, a, vs, m, e1, e2, e3, e4, e6⟩ => wpAny_mono (hi A s₁ Z ao (F.keeps k1.k)) (fun i s₂ hZ => ?_) fun _ _ e => e) fun _ _ e => e)
  obtain ⟨k2, t, e5⟩ := hZ
  subst e1; subst e5
  have e4' := e4.mono (.of_keeps k2.k) fun _ q => q
  have hm := mapOf_rd (k2.k _ _ e3) e4'
  obtain ⟨u, f1, f2⟩ := Rde.get e4' hx
  exact tail_any hm.typeIs slot_dict_getitem.lookup (wpAny_getItem_of (strKind_is _ w x t) hm (findBy_getL f1) ⟨(k1.trans k2).trans (Kp.tok _), f2⟩) (hs _ _)

noncomputable def ItemIs : D → Int → D → Prop
  | .lst l, k, d => (0 ≤ k ∧ k < 2 ^ 63 ∧ l[k.toNat]? = some d) ∨ (k < 0 ∧ -(l.length : Int) ≤ k ∧ -(2 ^ 63) ≤ k ∧ l[(k + l.length).toNat]? = some d)
  | .tup l, k, d => 0 ≤ k ∧ k < 2 ^ 63 ∧ l[k.toNat]? = some d
  | _, _, _ => False
theorem S.item {value slice : Expr} {pos : Pos} {dl d : D} {k : Int} (hv : Y w n env r (eval value env) dl) (hi : Y w n env r (eval slice env) (.int k)) (hx : ItemIs dl k d) (hs : PlainSub slice) :
    Y w n env r (eval (.Subscript value slice pos) env) d := by
  cases dl with
  | lst l =>
    rcases hx with ⟨a, b, c⟩ | ⟨a, b, c, e⟩
    · exact Y.itemL hv hi a b c hs
    · exact Y.itemLneg hv hi a b c e hs
  | tup l =>
    obtain ⟨a, b, c⟩ := hx
    exact Y.itemT hv hi a b c hs
  | _ => exact hx.elim
theorem ItemIs.tupC {l : List D} {k : Nat} {d : D} (hx : l[k]? = some d) (hk : (k : Int) < 2 ^ 63) : ItemIs (.tup l) k d := ⟨Int.natCast_nonneg _, hk, by simpa using hx⟩
theorem ItemIs.map {α : Type} [Inhabited α] {g : α → D} {l : List α} {k : Int} (h0 : 0 ≤ k ∧ k < l.length ∧ l.length ≤ sizeLine) : ItemIs (.lst (l.map g)) k (g (l.getD k.toNat default)) := by
  obtain ⟨a, b, c⟩ := h0
  rw [sizeLine_eq] at c
  refine .inl ⟨a, by lia, ?_⟩
  have : k.toNat < l.length := by apply Ar.b1 <;> assumption
  rw [List.getElem?_map, List.getD_eq_getElem?_getD, List.getElem?_eq_getElem this]
  rfl

theorem bi_name {x : Str} {p : Pos} {A : Around} {s : Shared} {v : Value} {Q : Value → Shared → Prop} (F : FIe w env Z r s.heap) (hx : env.kindOf x = some .globalImplicit) (e : nsIn (KK w) mainGlobals x = some none) (hv : bootBuiltins x = some v) (hn : x ≠ "__name__")
    (hd : (x == ("__debug__" : Str)) = false) (hq : Q v s) : wpAny (MM w) A (eval (.Name x p) env) Q NoE s := by
  obtain ⟨mg, G⟩ := F.wd.g
  obtain ⟨mb, B, hb⟩ := F.wd.b
  exact Name_function_global F.kd hx (loadGlobal_builtin (mg := mg) (by rw [F.gl]; exact G) (mg_none_of F.wd.k G e) (by rw [F.bi]; exact B) ((hb x hn).trans hv) hq) hd
theorem args_plain {A : Around} {s : Shared} {f : Value} {e : Expr} {rest : List Expr} {pos : Pos} {ds : List D} {Q : Args → Shared → Prop} (ha : Ys w n env r (spliced (backTo pos (starEach (e :: rest) env))) ds) (ao : AOk n A) (F : FIe w env Z r s.heap)
    (he : starEach (e :: rest) env = (false, eval e env) :: starEach rest env)
    (hq : ∀ vs s', Kp s s' → Rds w s'.heap Z ds vs → Q ⟨vs, []⟩ s') : wpAny (MM w) A (evalArgs f true (backTo pos (starEach (e :: rest) env)) []) Q NoE s := args_of ha ao F (ArgsOk.cons he) hq
structure BiOk (w : World) (x : Str) (v : Value) : Prop where
  e : nsIn (KK w) mainGlobals x = some none
  hv : bootBuiltins x = some v
  hn : x ≠ "__name__"
  hd : (x == ("__debug__" : Str)) = false
theorem S.bi1 {x : Str} {id : String} {p pos : Pos} {a : Expr} {da d : D} (hx : env.kindOf x = some .globalImplicit) (B : BiOk w x (.builtin id)) (ha : Y w n env r (eval a env) da) (he : starEach [a] env = (false, eval a env) :: starEach [] env)
    (hpl : (backTo pos (starEach [a] env)).any (·.1) = false)
    (run : ∀ A s Z v, AOk n A → Wd w s.heap → ZOk w Z s.heap → Rd w s.heap Z da v → wpAny (MM w) A (call (.builtin id) [v] []) (fun u s' => Kp s s' ∧ Rd w s'.heap Z d u) NoE s) : Y w n env r (eval (.Call (.Name x p) [a] [] pos) env) d := fun A s Z ao F =>
  wpAny_Call_Name_kw (bi_name F hx B.e B.hv B.hn B.hd (callWith_builtin hpl (args_plain (S.consA he ha Ys.nil) ao F he fun vs s' k rds => by
    obtain ⟨v, rfl, rv⟩ := rds.one_of
    have F' := F.keeps k.k
    exact wpAny_mono (run A s' Z v ao F'.wd F'.z rv) (fun _ _ ⟨k', r'⟩ => ⟨k.trans k', r'⟩) fun _ _ e => e)))
theorem S.bi2 {x : Str} {id : String} {p pos : Pos} {a b : Expr} {da db d : D} (hx : env.kindOf x = some .globalImplicit) (B : BiOk w x (.builtin id)) (ha : Y w n env r (eval a env) da) (hb : Y w n env r (eval b env) db)
    (he : starEach [a, b] env = (false, eval a env) :: starEach [b] env) (he' : starEach [b] env = (false, eval b env) :: starEach [] env) (hpl : (backTo pos (starEach [a, b] env)).any (·.1) = false)
    (run : ∀ A s Z v u, AOk n A → Wd w s.heap → ZOk w Z s.heap → Rd w s.heap Z da v → Rd w s.heap Z db u → wpAny (MM w) A (call (.builtin id) [v, u] []) (fun u s' => Kp s s' ∧ Rd w s'.heap Z d u) NoE s) : Y w n env r (eval (.Call (.Name x p) [a, b] [] pos) env) d := fun A s Z ao F =>
  wpAny_Call_Name_kw (bi_name F hx B.e B.hv B.hn B.hd (callWith_builtin hpl (args_plain (S.consA he ha (S.consA he' hb Ys.nil)) ao F he fun vs s' k rds => by
    obtain ⟨v, u, rfl, rv, ru⟩ := rds.two_of
    have F' := F.keeps k.k
    exact wpAny_mono (run A s' Z v u ao F'.wd F'.z rv ru) (fun _ _ ⟨k', r'⟩ => ⟨k.trans k', r'⟩) fun _ _ e => e)))
theorem run_len {l : List D} (hl : l.length ≤ sizeLine) : ∀ A s Z v, AOk n A → Wd w s.heap → ZOk w Z s.heap → Rd w s.heap Z (.lst l) v → wpAny (MM w) A (call (.builtin "len") [v] []) (fun u s' => Kp s s' ∧ Rd w s'.heap Z (.int l.length) u) NoE s := fun A s Z v _ _ _ hZ => by
  obtain ⟨a, vs, m, e1, e2, e3, e4⟩ := hZ
  subst e1
  have hs : (vs.size : Int) = l.length := by rw [← e4.len, Array.length_toList]
  exact call_len_list (lstO_isList e3) (by rw [hs]; rw [sizeLine_eq] at hl; apply Ar.n5 <;> assumption) ⟨Kp.tok _, _, by rw [hs]⟩
theorem run_max {a b : Int} : ∀ A s Z v u, AOk n A → Wd w s.heap → ZOk w Z s.heap → Rd w s.heap Z (.int a) v → Rd w s.heap Z (.int b) u → wpAny (MM w) A (call (.builtin "max") [v, u] []) (fun u s' => Kp s s' ∧ Rd w s'.heap Z (.int (if b > a then b else a)) u) NoE s := fun A s Z v u ao _ _ ⟨_, e1⟩ ⟨_, e2⟩ => by
  subst e1; subst e2
  exact max_two_ints ao.hd fun h' tk k => ⟨Kp.mk' k, by split <;> exact ⟨_, rfl⟩⟩
theorem run_min {a b : Int} : ∀ A s Z v u, AOk n A → Wd w s.heap → ZOk w Z s.heap → Rd w s.heap Z (.int a) v → Rd w s.heap Z (.int b) u → wpAny (MM w) A (call (.builtin "min") [v, u] []) (fun u s' => Kp s s' ∧ Rd w s'.heap Z (.int (if b < a then b else a)) u) NoE s := fun A s Z v u ao _ _ ⟨_, e1⟩ ⟨_, e2⟩ => by
  subst e1; subst e2
  exact min_two_ints ao.hd fun h' tk k => ⟨Kp.mk' k, by split <;> exact ⟨_, rfl⟩⟩

theorem Y.ifexpS {t x y : Expr} {pos : Pos} {b : Bool} {s1 s2 : Str} (h : YB w n env r (isTrue t env (eval t env)) b) (h1 : b = true → Y w n env r (eval x env) (.str s1)) (h2 : b = false → Y w n env r (eval y env) (.str s2)) :
    Y w n env r (eval (.IfExp t x y pos) env) (.str (if b = true then s1 else s2)) := by
  refine Y.ifexp h (fun e => ?_) (fun e => ?_)
  · rw [if_pos e]; exact h1 e
  · rw [if_neg (by rw [e]; decide)]; exact h2 e
theorem biLen : BiOk w "len" (.builtin "len") := ⟨by kernel_rfl, by kernel_rfl, by decide, rfl⟩
theorem biMax : BiOk w "max" (.builtin "max") := ⟨by kernel_rfl, by kernel_rfl, by decide, rfl⟩
theorem biMin : BiOk w "min" (.builtin "min") := ⟨by kernel_rfl, by kernel_rfl, by decide, rfl⟩
theorem S.len {p pos : Pos} {a : Expr} {l : List D} (hx : env.kindOf "len" = some .globalImplicit) (he : starEach [a] env = (false, eval a env) :: starEach [] env)
    (hpl : (backTo pos (starEach [a] env)).any (·.1) = false) (ha : Y w n env r (eval a env) (.lst l)) (hl : l.length ≤ sizeLine) : Y w n env r (eval (.Call (.Name "len" p) [a] [] pos) env) (.int l.length) :=
  S.bi1 hx biLen ha he hpl (run_len hl)
theorem S.lenM {α : Type} {g : α → D} {p pos : Pos} {a : Expr} {l : List α} (hx : env.kindOf "len" = some .globalImplicit) (he : starEach [a] env = (false, eval a env) :: starEach [] env)
    (hpl : (backTo pos (starEach [a] env)).any (·.1) = false) (ha : Y w n env r (eval a env) (.lst (l.map g))) (hl : l.length ≤ sizeLine) : Y w n env r (eval (.Call (.Name "len" p) [a] [] pos) env) (.int l.length) := by
  have := S.len (p := p) hx he hpl ha (by rw [List.length_map]; exact hl)
  rwa [List.length_map] at this
theorem S.max2 {p pos : Pos} {a b : Expr} {x y : Int} (hx : env.kindOf "max" = some .globalImplicit) (he : starEach [a, b] env = (false, eval a env) :: starEach [b] env) (he' : starEach [b] env = (false, eval b env) :: starEach [] env)
    (hpl : (backTo pos (starEach [a, b] env)).any (·.1) = false) (ha : Y w n env r (eval a env) (.int x)) (hb : Y w n env r (eval b env) (.int y)) : Y w n env r (eval (.Call (.Name "max" p) [a, b] [] pos) env) (.int (if y > x then y else x)) :=
  S.bi2 hx biMax ha hb he he' hpl run_max
theorem S.min2 {p pos : Pos} {a b : Expr} {x y : Int} (hx : env.kindOf "min" = some .globalImplicit) (he : starEach [a, b] env = (false, eval a env) :: starEach [b] env) (he' : starEach [b] env = (false, eval b env) :: starEach [] env)
    (hpl : (backTo pos (starEach [a, b] env)).any (·.1) = false) (ha : Y w n env r (eval a env) (.int x)) (hb : Y w n env r (eval b env) (.int y)) : Y w n env r (eval (.Call (.Name "min" p) [a, b] [] pos) env) (.int (if y < x then y else x)) :=
  S.bi2 hx biMin ha hb he he' hpl run_min

theorem S.toM {α : Type} {g : α → D} {value : Expr} {e : Expr} {p pos : Pos} {l : List α} {k : Int} (hv : Y w n env r (eval value env) (.lst (l.map g))) (he : Y w n env r (eval e env) (.int k)) (hz : 0 ≤ k ∧ l.length ≤ sizeLine) :
    Y w n env r (eval (.Subscript value (.Slice none (some e) none p) pos) env) (.lst ((l.take k.toNat).map g)) := by
  rw [List.map_take]
  have : (k.toNat : Int) = k := Int.toNat_of_nonneg hz.1
  exact Y.sliceTo hv (by rw [this]; exact he) (by rw [List.length_map]; exact hz.2)
theorem S.fromM {α : Type} {g : α → D} {value : Expr} {e : Expr} {p pos : Pos} {l : List α} {k : Int} (hv : Y w n env r (eval value env) (.lst (l.map g))) (he : Y w n env r (eval e env) (.int k)) (hz : 0 ≤ k ∧ l.length ≤ sizeLine) :
    Y w n env r (eval (.Subscript value (.Slice (some e) none none p) pos) env) (.lst ((l.drop k.toNat).map g)) := by
  rw [List.map_drop]
  have : (k.toNat : Int) = k := Int.toNat_of_nonneg hz.1
  exact Y.sliceFrom hv (by rw [this]; exact he) (by rw [List.length_map]; exact hz.2)
theorem S.revM {α : Type} {g : α → D} {value : Expr} {e : Expr} {p pos : Pos} {l : List α} (hv : Y w n env r (eval value env) (.lst (l.map g))) (he : Y w n env r (eval e env) (.int (-1))) (hz : l.length ≤ sizeLine) :
    Y w n env r (eval (.Subscript value (.Slice none none (some e) p) pos) env) (.lst (l.reverse.map g)) := by
  rw [List.map_reverse]
  exact Y.sliceRev hv he (by rw [List.length_map]; exact hz)
theorem ItemIs.lst {l : List D} {k : Int} {d : D} (e : 0 ≤ k ∧ k < 2 ^ 63 ∧ l[k.toNat]? = some d) : ItemIs (.lst l) k d := .inl e
noncomputable def dStrs : List D → Option (List Str)
  | [] => some []
  | .str x :: r => (dStrs r).map (x :: ·)
  | _ => none
theorem dStrs_eq : ∀ {ds : List D} {ss : List Str}, dStrs ds = some ss → ds = ss.map D.str
  | [], _, e => by cases e; rfl
  | .str x :: r, ss, e => by
    simp only [dStrs, Option.map_eq_some_iff] at e
    obtain ⟨s', e, rfl⟩ := e
    rw [dStrs_eq e]; rfl
  | .none :: _, _, e => by cases e
  | .bool _ :: _, _, e => by cases e
  | .int _ :: _, _, e => by cases e
  | .any :: _, _, e => by cases e
  | .own _ :: _, _, e => by cases e
  | .fn _ :: _, _, e => by cases e
  | .tup _ :: _, _, e => by cases e
  | .lst _ :: _, _, e => by cases e
  | .dct _ :: _, _, e => by cases e
  | .inst _ _ :: _, _, e => by cases e
  | .meth _ _ :: _, _, e => by cases e
  | .lam _ _ _ _ _ :: _, _, e => by cases e
theorem CmpOK.inT {a : Str} {ds : List D} {ss : List Str} (h : dStrs ds = some ss) : CmpOK w n .In (.str a) (.tup ds) (ss.any (· == a)) := by rw [dStrs_eq h]; exact CmpOK.inTS
theorem CmpOK.ninT {a : Str} {ds : List D} {ss : List Str} (h : dStrs ds = some ss) : CmpOK w n .NotIn (.str a) (.tup ds) (!ss.any (· == a)) := by rw [dStrs_eq h]; exact CmpOK.ninTS
end
end Uni
namespace Uni
section
variable {w : World} {n : Nat} {env : Env} {r : Rho} {P : Fl → Rho → Prop} {rest : List Stmt}

noncomputable def rsets : Rho → List Str → List D → Rho
  | r, x :: xs, d :: ds => rsets (rset r x d) xs ds
  | r, _, _ => r
noncomputable def KindOk (env : Env) (x : Str) : Prop := env.kindOf x = some .local ∨ env.kindOf x = some .cell
inductive StoresTo (env : Env) : List (Value → Sem Unit) → List Str → Prop
  | nil : StoresTo env [] []
  | bnd {x ts xs} : KindOk env x → StoresTo env ts xs → StoresTo env ((fun v => bindName env x v) :: ts) (x :: xs)
  | asg {x p ts xs} : KindOk env x → StoresTo env ts xs → StoresTo env (assign (.Name x p) env :: ts) (x :: xs)

theorem Same.heap {Zo : List Addr} {s : Shared} {h' : Heap} (k : ∀ b o, s.heap.get? b = some o → h'.get? b = some o) : Same Zo s { s with heap := h' } := ⟨rfl, fun b o _ e => k b o e⟩
theorem assignInOrder_ok {A : Around} {Zo Z : List Addr} {hb : Heap} {Q : Unit → Shared → Prop} : ∀ {ts : List (Value → Sem Unit)} {xs : List Str}, StoresTo env ts xs → ∀ {ds : List D} {vs : List Value} {s : Shared} {r : Rho},
    FIs w env Zo Z hb r s.heap → Rds w s.heap (Zo ++ Z) ds vs → xs.length = ds.length → (∀ s', FIs w env Zo Z hb (rsets r xs ds) s'.heap → Same Zo s s' → Q () s') → wpAny (MM w) A (assignInOrder ts vs) Q NoE s
  | _, _, .nil, ds, vs, s, r, F, rd, hl, hq => by
    cases ds with
    | nil =>
      have : assignInOrder ([] : List (Value → Sem Unit)) vs = pure () := by cases vs <;> rfl
      rw [this]
      exact wpAny_pure (hq s F (.refl _))
    | cons _ _ => cases hl
  | _, _, .bnd (x := x) (ts := ts) (xs := xs) hk st, ds, vs, s, r, F, rd, hl, hq => by
    cases ds with
    | nil => cases hl
    | cons d ds =>
      obtain ⟨v, vs, rfl, h1, h2⟩ := rd
      show wpAny _ _ (holding vs (bindName env x v) >>= fun _ => assignInOrder ts vs) _ _ s
      refine wpAny_bind (wpAny_holding (wpAny_bindName (store_name F h1 hk fun s' F' e ez => ?_)))
      exact assignInOrder_ok st F' (h2.mono (fun b o hb e => ez b o (fun q => hb (List.mem_append_left _ q)) e) fun _ q => q) (by simpa using hl) fun s'' F'' e' => hq s'' F'' (Same.trans e e')
  | _, _, .asg (x := x) (p := p) (ts := ts) (xs := xs) hk st, ds, vs, s, r, F, rd, hl, hq => by
    cases ds with
    | nil => cases hl
    | cons d ds =>
      obtain ⟨v, vs, rfl, h1, h2⟩ := rd
      show wpAny _ _ (holding vs (assign (.Name x p) env v) >>= fun _ => assignInOrder ts vs) _ _ s
      refine wpAny_bind (wpAny_holding (wpAny_assign_Name (store_name F h1 hk fun s' F' e ez => ?_)))
      exact assignInOrder_ok st F' (h2.mono (fun b o hb e => ez b o (fun q => hb (List.mem_append_left _ q)) e) fun _ q => q) (by simpa using hl) fun s'' F'' e' => hq s'' F'' (Same.trans e e')

theorem Rds.mono' {h h' : Heap} {Z : List Addr} {ds : List D} {vs : List Value} (r : Rds w h Z ds vs) (k : ∀ b o, h.get? b = some o → h'.get? b = some o) : Rds w h' Z ds vs := Rds.mono (.of_keeps k) (fun _ q => q) _ _ r

theorem extBut_keeps {h h' : Heap} (x : Heap.ExtBut h.objs.size h h') : ∀ b o, h.get? b = some o → h'.get? b = some o := fun b o e => x b o (Nat.ne_of_lt (Heap.lt_size e)) e

theorem X.tup {elts : List Expr} {k : Nat} {tpos pos : Pos} {value : Expr} {ds : List D} {xs : List Str} (hs : swapsWithSole [.Tuple elts k tpos] value pos.line env = pure false) (hw : swappedStores [.Tuple elts k tpos] value env = pure none)
    (hstar : (assignEach elts env).findIdx? (·.1) = none) (hv : Y w n env r (eval value env) (.tup ds)) (hst : StoresTo env ((assignEach elts env).map (·.2)) xs) (hl : xs.length = ds.length)
    (h : X w n env (rsets r xs ds) (execs rest env) P) : X w n env r (execs (.Assign [.Tuple elts k tpos] value pos :: rest) env) P :=
  X.seq fun A s Zo Z hb ao F => by
    refine PyProof.Rows.Assign_Tuple (wpAny_mono (hv A s _ ao F.e) (fun v s₁ hZ => ?_) fun _ _ e => e) hs hw
    obtain ⟨k1, a, vs, m, e1, e2, e3, e4⟩ := hZ
    subst e1
    have F1 := F.keeps k1.k
    have hsz : vs.size = ds.length := by rw [← e4.len, Array.length_toList]
    have hn : (assignEach elts env).length = vs.size := by
      rw [hsz, ← hl]
      have : ∀ {ts xs}, StoresTo env ts xs → ts.length = xs.length := fun st => by induction st <;> simp_all
      rw [← this hst, List.length_map]
    refine assign_Tuple_tuple ao.hd (tupO_isTup e3) hn hstar fun h' he => ?_
    have k2 := extBut_keeps he
    exact assignInOrder_ok hst (s := { s₁ with heap := h' }) (F1.keeps k2) (e4.mono' k2) hl fun s' F' e => ⟨.nxt, _, h, rfl, F', Same.trans k1.same (Same.trans (Same.heap k2) e)⟩
theorem X.tupSw {elts : List Expr} {k : Nat} {tpos pos : Pos} {value : Expr} {ds : List D} {xs : List Str} (hs : swapsWithSole [.Tuple elts k tpos] value pos.line env = pure false) (hw : swappedStores [.Tuple elts k tpos] value env = pure (some xs))
    (hv : Y w n env r (eval value env) (.tup ds)) (hk : ∀ x ∈ xs, KindOk env x) (hl : xs.length = ds.length)
    (h : X w n env (rsets r xs.reverse ds.reverse) (execs rest env) P) : X w n env r (execs (.Assign [.Tuple elts k tpos] value pos :: rest) env) P :=
  X.seq fun A s Zo Z hb ao F => by
    refine PyProof.Rows.Assign_Tuple_swapped (wpAny_mono (hv A s _ ao F.e) (fun v s₁ hZ => ?_) fun _ _ e => e) hs hw
    obtain ⟨k1, a, vs, m, e1, e2, e3, e4⟩ := hZ
    subst e1
    have F1 := F.keeps k1.k
    have hsz : vs.size = ds.length := by rw [← e4.len, Array.length_toList]
    rw [hl, ← hsz]
    refine wpAny_unpackItems_tuple ao.hd ⟨_, e3, rfl, m, rfl⟩ fun h' he => ?_
    have k2 := extBut_keeps he
    have hst : ∀ l : List Str, (∀ x ∈ l, KindOk env x) → StoresTo env (l.map fun n => bindName env n) l := fun l => by
      induction l with
      | nil => intro _; exact .nil
      | cons x l ih => intro hx; exact .bnd (hx x List.mem_cons_self) (ih fun y hy => hx y (List.mem_cons_of_mem _ hy))
    exact assignInOrder_ok (hst xs.reverse fun x hx => hk x (List.mem_reverse.mp hx)) (s := { s₁ with heap := h' }) (F1.keeps k2) (e4.mono' k2).rev (by simpa using hl) fun s' F' e => ⟨.nxt, _, h, rfl, F', Same.trans k1.same (Same.trans (Same.heap k2) e)⟩

theorem X.augI {x : Str} {p pos : Pos} {e : Expr} {a b : Int} (hx : KindOk env x) (hr : r x = some (.int a)) (he : Y w n env r (eval e env) (.int b)) (hld : Y w n env r (loadName env x) (.int a))
    (h : X w n env (rset r x (.int (a + b))) (execs rest env) P) : X w n env r (execs (.AugAssign (.Name x p) .Add e pos :: rest) env) P :=
  X.seq fun A s Zo Z hb ao F => by
    refine wpAny_AugAssign_Name (wpAny_mono (hld A s _ ao F.e) (fun u s₁ ⟨k1, t, e1⟩ => wpAny_mono (he A s₁ _ ao (F.keeps k1.k).e) (fun v s₂ hZ => ?_) fun _ _ e => e) fun _ _ e => e)
    obtain ⟨k2, t2, e2⟩ := hZ
    subst e1; subst e2
    refine wpAny_iadd_int (store_name (d := .int (a + b)) (s := { s₂ with toks := s₂.toks + 1 }) (F.keeps (k1.trans k2).k) ⟨_, rfl⟩ hx fun s' F' e _ => ⟨.nxt, _, h, rfl, F', Same.trans (k1.trans k2).same (Same.trans (Kp.tok _).same e)⟩)
theorem X.subI {x : Str} {p pos : Pos} {e : Expr} {a b : Int} (hx : KindOk env x) (hr : r x = some (.int a)) (he : Y w n env r (eval e env) (.int b)) (hld : Y w n env r (loadName env x) (.int a))
    (h : X w n env (rset r x (.int (a - b))) (execs rest env) P) : X w n env r (execs (.AugAssign (.Name x p) .Sub e pos :: rest) env) P :=
  X.seq fun A s Zo Z hb ao F => by
    refine wpAny_AugAssign_Name (wpAny_mono (hld A s _ ao F.e) (fun u s₁ ⟨k1, t, e1⟩ => wpAny_mono (he A s₁ _ ao (F.keeps k1.k).e) (fun v s₂ hZ => ?_) fun _ _ e => e) fun _ _ e => e)
    obtain ⟨k2, t2, e2⟩ := hZ
    subst e1; subst e2
    exact AutoIntOps.isub_0 (store_name (d := .int (a - b)) (s := { s₂ with toks := s₂.toks + 1 }) (F.keeps (k1.trans k2).k) ⟨_, rfl⟩ hx fun s' F' e _ => ⟨.nxt, _, h, rfl, F', Same.trans (k1.trans k2).same (Same.trans (Kp.tok _).same e)⟩)
theorem Y.ldLoc {x d} (hx : env.kindOf x = some .local) (e : r x = some d) : Y w n env r (loadName env x) d := fun A s Z _ F => by
  obtain ⟨m, hn, hm⟩ := F.ns
  obtain ⟨v, e1, e2⟩ := hm x d e hx
  exact wpAny_loadName_local F.kd hx hn e1 ⟨Kp.refl s, e2⟩
end
end Uni
namespace Uni
section
variable {w : World} {n : Nat}
theorem Callee.lam2 {e : Expr} {sc : Scope} {p1 p2 x : Str} {d d1 d2 d' : D} (hk : sc.kind = .function) (hco : sc.isCoroutine = false) (hgen : sc.isGenerator = false) (hcell : ∀ y ∈ sc.names, y.2 ≠ .cell)
    (h1 : sc.names.lookup p1 = some .local) (h2 : sc.names.lookup p2 = some .local) (hx : sc.names.lookup x = some .free) (hne : p1 ≠ p2)
    (body : ∀ env, env.scope = sc → Y w n env (rset (rargs [p1, p2] [d1, d2]) x d) (eval e env) d') : Callee w (n + 1) (.lam e sc [p1, p2] x d) [d1, d2] d' where
  keep := fun h Z v W rd => by
    obtain ⟨a, c, u, rfl, _, _, L, _⟩ := rd
    obtain ⟨o, fd, g1, g2, _⟩ := L.ex
    obtain ⟨oc, od, dt, sl⟩ := o
    simp only at g2
    subst g2
    exact keeps_F h ⟨oc, od, fd, sl, g1⟩
  run := fun A s Z v vs ao W hz rd rds => by
    obtain ⟨a, c, u, rfl, z1, z2, L, hcl, hu⟩ := rd
    obtain ⟨v1, v2, rfl, r1, r2⟩ := rds.two_of
    obtain ⟨o, fd, g1, g2, g3, g4, g5, g6, g7, g8, cc, oc, xs, t, g15, g16, g17, g18, g19⟩ := L.ex
    subst g4
    refine kla_callFunE (by have := ao.dp; apply Ar.b6 <;> assumption) g1 g2 hco hgen g3 ⟨cc, oc, xs, t, g15, g17, g18, g19⟩ ?_
    rw [g8 [v1, v2] rfl]
    refine wpAny_pure (wpAny_newFunctionEnv hcell (by
      intro y hy
      simp only [List.zip_cons_cons, List.zip_nil_right, List.mem_cons, List.not_mem_nil, or_false] at hy
      rcases hy with rfl | rfl
      · exact h1
      · exact h2) (fun h₁ hns hsb => ?_) hk)
    have k1 : ∀ b o, s.heap.get? b = some o → h₁.get? b = some o := fun b o e => hsb.extBut b o (Nat.ne_of_lt (Heap.lt_size e)) (Heap.get?_push_of_some _ e)
    refine ⟨W.lim.keeps k1, kla_codeExpr ?_⟩
    generalize henv : newEnv fd.scope s.heap.objs.size fd.globals fd.closure (fd.qualname ++ ".<locals>.") (some a) fd.code none fd.builtins = env
    have e1 : env.scope = fd.scope := by rw [← henv]; rfl
    have e2 : env.locals = s.heap.objs.size := by rw [← henv]; rfl
    have e3 : env.cells = [(x, c)] := by rw [← henv, ← g5]; rfl
    have e4 : env.globals = mainGlobals := by rw [← henv, ← g6]; rfl
    have e5 : env.builtins = builtinsNs := by rw [← henv, ← g7]; rfl
    have F : FIe w env Z (rset (rargs [p1, p2] [d1, d2]) x d) h₁ := by
      refine ⟨W.keeps k1, hz.keeps k1, ⟨_, by rw [e2]; exact hns, fun y dd e hy => ?_⟩, fun y dd e hy => ?_, by rw [e1]; exact hk, e4, e5⟩
      · have hy : fd.scope.names.lookup y = some .local := by rw [← e1]; exact hy
        have hyx : y ≠ x := fun q => by rw [q, hx] at hy; cases hy
        simp only [rset, rargs, if_neg hyx] at e
        by_cases q1 : y = p1
        · subst q1
          rw [if_pos rfl] at e
          cases e
          refine ⟨v1, ?_, r1.mono (.of_keeps k1) fun _ q => q⟩
          have q2 : (y == p2) = false := by simpa using hne
          simp [List.lookup_cons, q2]
        · rw [if_neg q1] at e
          by_cases q2 : y = p2
          · subst q2
            rw [if_pos rfl] at e
            cases e
            exact ⟨v2, by simp, r2.mono (.of_keeps k1) fun _ q => q⟩
          · rw [if_neg q2] at e; cases e
      · have hy' : fd.scope.names.lookup y = some .cell ∨ fd.scope.names.lookup y = some .free := by rw [← e1]; exact hy
        by_cases q : y = x
        · subst q
          simp only [rset, if_true] at e
          cases e
          obtain ⟨co, f1, f2⟩ := hcl
          exact ⟨c, u, by rw [e3]; simp, ⟨co, k1 _ _ f1, f2⟩, hu.mono (.of_keeps k1) fun _ q => q⟩
        · simp only [rset, rargs, if_neg q] at e
          by_cases q1 : y = p1
          · subst q1; rw [h1] at hy'; rcases hy' with h | h <;> cases h
          · rw [if_neg q1] at e
            by_cases q2 : y = p2
            · subst q2; rw [h2] at hy'; rcases hy' with h | h <;> cases h
            · rw [if_neg q2] at e; cases e
    refine wpAny_mono (body env e1 (A.deeper env) { s with heap := h₁, toks := s.toks + 2 } Z ao.deeper F) (fun v' s' ⟨kk, r'⟩ => ?_) fun _ _ e => e.elim
    exact ⟨v', rfl, Kp.trans ⟨rfl, k1⟩ kk, r'⟩
end
end Uni
namespace Uni
section
variable {w : World} {n : Nat} {A : Around} {s : Shared} {x C dx : Addr} {name : Str} {v : Value}

structure SetOk (w : World) (C : Addr) (name : Str) : Prop where
  hs : findIn (KK w) (.ref C) "__setattr__" = some (some (.builtin "object.__setattr__"))
  hp : plainOver (KK w) C = true
  ht : takerIn (KK w) C name = some none
  hh : hasDictIn (KK w) C = true
theorem setOwn {es : Array DictEntry} {m : Nat} {Q : Unit → Shared → Prop} {E : Value → Shared → Prop} (W : Wd w s.heap) (hx : s.heap.get? x = some (instObj C dx)) (hd : s.heap.get? dx = some (dctO es m)) (hsz : (putL name (PyData.keyHash w.params name) (.str name (s.toks + 1)) v es.toList).length ≤ 1000)
    (hl : (getL name es.toList).isSome = true) (S : SetOk w C name)
    (h : ∀ h', h'.get? dx = some (dctO (putL name (PyData.keyHash w.params name) (.str name (s.toks + 1)) v es.toList).toArray (putN name es.toList m)) → Heap.SameBut dx s.heap h' → Q () { s with heap := h', toks := s.toks + 2 }) :
    wpAny (MM w) A (setAttr (.ref x) name v) Q E s := by
  have I : InstAt s.heap x (instObj C dx) C (some (dictOf es.toList m)) := instAt hx hd
  refine set_plain W.k I S.hs (osa_open (s := { s with toks := s.toks + 1 }) W.k I S.hp S.ht fun b => ?_)
  obtain ⟨cd, hc, hd'⟩ := any_some S.hh
  refine wpAny_bind (wpAny_pure (wpAny_bind (wpAny_bind (wpAny_loadPart hx (wpAny_bind (Looks.here (s := { s with toks := s.toks + 1 }) (looks_clsIn W.k hc) ?_))))))
  rw [hd']
  refine wpAny_pure (a := some dx) (wpAny_bind (wpAny_pure (wpAny_bind ?_)))
  unfold nsSet
  refine wpAny_bind (wpAny_bind (wpAny_askSetting (wpAny_pure (wpAny_bind (wpAny_mkText (wpAny_bind (wpAny_loadPart hd ?_)))))))
  dsimp only
  have c : aRefKeyMayBeTheName name es = false := by
    rw [aRefKeyMayBeTheName_at, ← Array.any_toList, ← Array.any_toList]
    unfold getL at hl
    split at hl
    · rename_i en he
      rw [List.any_eq_true.mpr ⟨en, List.mem_of_find?_eq_some he, List.find?_some he⟩]; rfl
    · split at hl
      · cases hl
      · rename_i z; rw [Bool.not_eq_true] at z; rw [z, Bool.and_false]
  rw [c]
  refine wpAny_updatePart hd ?_
  have e1 : Obj.putName name (PyData.keyHash w.params name) (.str name (s.toks + 1)) v (dctO es m) = dctO (putL name (PyData.keyHash w.params name) (.str name (s.toks + 1)) v es.toList).toArray (putN name es.toList m) := by
    have := putName_dict name (PyData.keyHash w.params name) (.str name (s.toks + 1)) v es.toList m
    simpa [dictOf] using this
  have D' : (s.heap.update dx (Obj.putName name (PyData.keyHash w.params name) (.str name (s.toks + 1)) v)).get? dx = some (dctO (putL name (PyData.keyHash w.params name) (.str name (s.toks + 1)) v es.toList).toArray (putN name es.toList m)) := by
    rw [← e1]
    exact Heap.get?_update_self _ hd (by rw [e1]; rfl)
  refine wpAny_bind (wpAny_lookBehind D' (pastItsLine_dict (by rw [List.size_toArray, sizeLine_eq]; lia)) ?_)
  exact wpAny_pure (h _ D' (Heap.SameBut.update ..))
end
end Uni
namespace Uni

noncomputable def upds (m : Str → Option Value) : List Str → List Value → Str → Option Value
  | x :: xs, v :: vs => upds (fun y => if y = x then some v else m y) xs vs
  | _, _ => m
theorem upds_skip : ∀ {xs : List Str} {vs : List Value} {m : Str → Option Value} {y : Str}, y ∉ xs → upds m xs vs y = m y
  | [], _, _, _, _ => by simp [upds]
  | _ :: _, [], _, _, _ => by simp [upds]
  | x :: xs, v :: vs, m, y, h => by
    have h1 : y ≠ x := fun e => h (e ▸ List.mem_cons_self)
    rw [upds, upds_skip fun e => h (List.mem_cons_of_mem _ e), if_neg h1]
structure Steps (w : World) (A : Around) (I : Addr) (fp wr : List Addr) (k : Nat) (target : Expr) (xs : List Str) (P : Nat → List Value → Prop) (St : Nat → Heap → Prop) : Prop where
  sub : ∀ b ∈ wr, b ∈ fp
  frame : ∀ i h h', St i h → (∀ b ∈ fp, ∀ o, h.get? b = some o → h'.get? b = some o) → St i h'
  turn : ∀ i (s : Shared) (env : Env) (m : Str → Option Value) (Q : Unit → Shared → Prop) (E : Value → Shared → Prop) (NN : Shared → Prop), i < k → St i s.heap → s.heap.Ns env.locals m → env.locals ∉ fp → (∀ x ∈ xs, env.kindOf x = some .local) →
    (env.scope.kind == .class || (env.scope.kind == .module && env.locals != env.globals)) = false →
    (∀ vs h' tk, P i vs → h'.Ns env.locals (upds m xs vs) → St (i + 1) h' → (∀ b o, b ∉ wr → b ≠ env.locals → s.heap.get? b = some o → h'.get? b = some o) → Q () { s with heap := h', toks := tk }) →
    wpAny (MM w) A (pyNext (.ref I)) (fun r s₁ => match r with
      | none => NN s₁
      | some v => wpAny (MM w) A (letOwnedTupleGo target (.ref I) v) (fun _ s₂ => wpAny (MM w) A (assign target env v) Q E s₂) E s₁) E s
  done : ∀ (s : Shared) (Q : Option Value → Shared → Prop) (E : Value → Shared → Prop), St k s.heap →
    (∀ h' tk, (∀ b o, b ∉ wr → s.heap.get? b = some o → h'.get? b = some o) → Q none { s with heap := h', toks := tk }) → wpAny (MM w) A (pyNext (.ref I)) Q E s
  self : ∀ i (s : Shared) (Q : Value → Shared → Prop) (E : Value → Shared → Prop), St i s.heap → Q (.ref I) s → wpAny (MM w) A (pyIter (.ref I)) Q E s

noncomputable def relabS (sc scope : Scope) : Scope :=
  { scope with names := scope.names.map fun (n, k) => if (k == .free && sc.kind == .function && sc.names.lookup n == some .cell) then (n, .cell) else (n, k) }
theorem relab_eq {scope : Scope} {env : Env} {sc : Scope} (hs : env.scope = sc) : relabel scope env = relabS sc scope := by
  subst hs; rfl
noncomputable def rcomp (scope : Scope) (r : Rho) (xs : List Str) (ds : List D) : Rho := fun y => match (xs.zip ds).lookup y with
  | some d => some d
  | none => if scope.names.lookup y == some .local then none else r y

noncomputable def clo (env : Env) : List (Str × NameKind) → List (Str × Addr) → List (Str × Addr)
  | [], cs => cs
  | (n, k) :: r, cs => if k == .free then clo env r ((n, (env.cells.lookup n).getD 0) :: cs) else clo env r cs
theorem closure_eq {scope : Scope} {env : Env} (h : ∀ p ∈ scope.names, p.2 = .free → ∃ c, env.cells.lookup p.1 = some c) : closureFor scope env = pure (clo env scope.names []) := by
  have gen : ∀ (l : List (Str × NameKind)) (cs : List (Str × Addr)), (∀ p ∈ l, p.2 = .free → ∃ c, env.cells.lookup p.1 = some c) →
      (forIn l cs fun x c => match x with
        | (name, kind) => if (kind == .free) = true then do let a ← cellOf env name; pure (ForInStep.yield ((name, a) :: c)) else pure (ForInStep.yield c) : Sem (List (Str × Addr))) = pure (clo env l cs) := by
    intro l
    induction l with
    | nil => intro cs _; rfl
    | cons p l ih =>
      intro cs hl
      obtain ⟨n, k⟩ := p
      rw [List.forIn_cons]
      have ih' := fun cs' => ih cs' fun q hq => hl q (List.mem_cons_of_mem _ hq)
      cases hk : k == .free with
      | false =>
        simp only [clo, hk, Bool.false_eq_true, if_false, pure_bind]
        exact ih' _
      | true =>
        obtain ⟨c, hc⟩ := hl (n, k) List.mem_cons_self (beq_iff_eq.mp hk)
        have hc' : env.cells.lookup n = some c := hc
        simp only [clo, hk, if_true, cellOf, hc', pure_bind, Option.getD_some]
        exact ih' _
  unfold closureFor
  simpa using gen scope.names [] h
theorem clo_lookup {env : Env} {y : Str} {c : Addr} (hy : env.cells.lookup y = some c) : ∀ (l : List (Str × NameKind)) (cs : List (Str × Addr)), ((y, NameKind.free) ∈ l ∨ cs.lookup y = some c) → (∀ c', cs.lookup y = some c' → c' = c) → (clo env l cs).lookup y = some c
  | [], cs, h, h2 => by
    rcases h with h | h
    · cases h
    · exact h
  | (n, k) :: r, cs, h, h2 => by
    unfold clo
    cases hk : k == .free with
    | false =>
      simp only [Bool.false_eq_true, if_false]
      refine clo_lookup hy r cs (h.imp (fun h => ?_) id) h2
      rcases List.mem_cons.mp h with e | e
      · cases e; cases hk
      · exact e
    | true =>
      simp only [if_true]
      by_cases q : y == n
      · have e : y = n := beq_iff_eq.mp q
        subst e
        refine clo_lookup hy r _ (.inr ?_) fun c' hc' => ?_
        · simp [hy]
        · simpa [List.lookup_cons, hy] using hc'.symm
      · have q' : (y == n) = false := by simpa using q
        refine clo_lookup hy r _ (h.imp (fun h => ?_) fun h => ?_) fun c' hc' => h2 c' ?_
        · rcases List.mem_cons.mp h with e | e
          · cases e; simp at q'
          · exact e
        · rw [List.lookup_cons, q']; exact h
        · rw [List.lookup_cons, q'] at hc'; exact hc'

noncomputable def okComp (sc : Scope) (r : Rho) (scope : Scope) (xs : List Str) : Bool :=
  decide (scope.kind = .function) && scope.names.all (fun p => decide (p.2 ≠ .cell)) && scope.names.all (fun p => !decide (p.2 = .local) || decide (scope.names.lookup p.1 = some .local)) &&
    xs.all (fun x => decide (scope.names.lookup x = some .local)) && scope.names.all (fun p => !decide (p.2 = .free) || ((r p.1).isSome && (decide (sc.names.lookup p.1 = some .cell) || decide (sc.names.lookup p.1 = some .free)))) &&
    decide xs.Nodup

section
variable {w : World} {n : Nat} {env : Env} {r : Rho} {A : Around}

theorem lookup_relab {sc scope : Scope} : ∀ {names : List (Str × NameKind)} {x : Str} {k : NameKind}, (names.map fun (n, k) => if (k == NameKind.free && sc.kind == .function && sc.names.lookup n == some .cell) then (n, NameKind.cell) else (n, k)).lookup x = some k →
    names.lookup x = some k ∨ (names.lookup x = some .free ∧ k = .cell ∧ sc.names.lookup x = some .cell)
  | [], x, k, h => by simp at h
  | (n, k') :: l, x, k, h => by
    rw [List.map_cons] at h
    rw [List.lookup_cons]
    by_cases c : (k' == NameKind.free && sc.kind == .function && sc.names.lookup n == some .cell) = true
    · dsimp only at h
      rw [if_pos c, List.lookup_cons] at h
      cases q : x == n with
      | true =>
        rw [q] at h; cases h
        simp only [Bool.and_eq_true, beq_iff_eq] at c
        refine .inr ⟨by rw [c.1.1], rfl, ?_⟩
        rw [beq_iff_eq.mp q]; exact c.2
      | false => rw [q] at h; exact lookup_relab (scope := scope) h
    · dsimp only at h
      rw [if_neg c, List.lookup_cons] at h
      cases q : x == n with
      | true => rw [q] at h; exact .inl h
      | false => rw [q] at h; exact lookup_relab (scope := scope) h

theorem rcomp_lookup {xs : List Str} {ds : List D} {vs : List Value} {h : Heap} {Z : List Addr} {m : Str → Option Value} : Rds w h Z ds vs → xs.Nodup → ∀ {y : Str} {d : D}, (xs.zip ds).lookup y = some d → ∃ v, upds m xs vs y = some v ∧ Rd w h Z d v := by
  intro rd nd y d e
  induction xs generalizing ds vs m with
  | nil => simp at e
  | cons x xs ih =>
    cases ds with
    | nil => simp at e
    | cons d0 ds =>
      obtain ⟨v, vs, rfl, h1, h2⟩ := rd
      have nd' := List.nodup_cons.mp nd
      rw [List.zip_cons_cons, List.lookup_cons] at e
      rw [upds]
      cases q : y == x with
      | true =>
        rw [q] at e; cases e
        have : y = x := beq_iff_eq.mp q
        subst this
        rw [upds_skip nd'.1, if_pos rfl]
        exact ⟨v, rfl, h1⟩
      | false => rw [q] at e; exact ih h2 nd'.2 e
theorem zip_mem {xs : List Str} {ds : List D} {y : Str} {d : D} (e : (xs.zip ds).lookup y = some d) : y ∈ xs := by
  induction xs generalizing ds with
  | nil => simp at e
  | cons x xs ih =>
    cases ds with
    | nil => simp at e
    | cons d0 ds =>
      rw [List.zip_cons_cons, List.lookup_cons] at e
      cases q : y == x with
      | true => rw [beq_iff_eq.mp q]; exact List.mem_cons_self
      | false => rw [q] at e; exact List.mem_cons_of_mem _ (ih e)

theorem FIe.comp {s0 : Heap} {h : Heap} {Z Zo : List Addr} {scope sc : Scope} {C : Addr} {xs : List Str} {ds : List D} {vs : List Value} {m : Str → Option Value} (F : FIe w env Z r s0) (hs : env.scope = sc) (ok : okComp sc r scope xs = true)
    (k : ∀ b o, s0.get? b = some o → h.get? b = some o) (zo : ∀ b ∈ Zo, s0.get? b = none ∧ ∃ o, h.get? b = some o) (hn : h.Ns C (upds m xs vs)) (rd : Rds w h (Zo ++ Z) ds vs) :
    FIe w (compEnvC scope (clo env scope.names []) C env) (Zo ++ Z) (rcomp scope r xs ds) h := by
  simp only [okComp, Bool.and_eq_true, decide_eq_true_eq, List.all_eq_true, Bool.or_eq_true, Bool.not_eq_true', decide_eq_false_iff_not] at ok
  obtain ⟨⟨⟨⟨⟨h1, h2⟩, h3⟩, h4⟩, h5⟩, h6⟩ := ok
  have sceq : (compEnvC scope (clo env scope.names []) C env).scope = relabS sc scope := relab_eq hs
  have kind : ∀ {y k}, (compEnvC scope (clo env scope.names []) C env).kindOf y = some k → scope.names.lookup y = some k ∨ (scope.names.lookup y = some .free ∧ k = .cell ∧ sc.names.lookup y = some .cell) := fun {y k} e => by
    have e : (relabS sc scope).names.lookup y = some k := by rw [← sceq]; exact e
    exact lookup_relab (scope := scope) e
  refine ⟨F.wd.keeps k, ?_, ⟨_, hn, ?_⟩, ?_, ?_, F.gl, F.bi⟩
  · intro z hz
    rcases List.mem_append.mp hz with q | q
    · obtain ⟨a, o, e⟩ := zo z q
      refine ⟨?_, o, e⟩
      cases q : (KK w).lookup z with
      | none => rfl
      | some o' => have := F.wd.k _ _ q; rw [a] at this; cases this
    · obtain ⟨a, o, e⟩ := F.z z q
      exact ⟨a, o, k _ _ e⟩
  · intro y d e hy
    unfold rcomp at e
    split at e
    · rename_i d' he
      cases e
      exact rcomp_lookup rd h6 he
    · rcases kind hy with q | q
      · rw [q] at e; simp at e
      · cases q.2.1
  · intro y d e hy
    have notin : y ∉ xs := fun hm => by
      have := h4 y hm
      rcases hy with hy | hy <;> rcases kind hy with q | q
      · rw [this] at q; cases q
      · rw [this] at q; cases q.1
      · rw [this] at q; cases q
      · rw [this] at q; cases q.1
    have nz : (xs.zip ds).lookup y = none := by
      cases q : (xs.zip ds).lookup y with
      | none => rfl
      | some d' => exact absurd (zip_mem q) notin
    unfold rcomp at e
    rw [nz] at e
    simp only at e
    have hf : scope.names.lookup y = some .free := by
      rcases hy with hy | hy <;> rcases kind hy with q | q
      · exact absurd rfl (h2 _ (mem_of_lookup q))
      · exact q.1
      · exact q
      · exact q.1
    rw [hf] at e
    have e : r y = some d := by simpa using e
    have hm := mem_of_lookup hf
    have h5' := (h5 _ hm).resolve_left (fun q => q rfl)
    have hk : env.kindOf y = some .cell ∨ env.kindOf y = some .free := by
      show env.scope.names.lookup y = _ ∨ env.scope.names.lookup y = _
      rw [hs]; exact h5'.2
    obtain ⟨c, u, e1, e2, e3⟩ := F.cl y d e hk
    refine ⟨c, u, clo_lookup e1 _ _ (.inl hm) (by simp), e2.keeps k, ?_⟩
    exact Rd.grow k (fun b hb => (zo b hb).1) d u e3
  · show (relabel scope env).kind = .function
    rw [relab_eq hs]; exact h1

theorem comp_loop {prog : Program} {elt target iter : Expr} {ifs : List Expr} {scope : Scope} {pos : Pos} {it acc : Value} {env : Env} {R : Result → Shared → Prop} {s : Shared} (I : Nat → Shared → Prop)
    (turn : ∀ n s, I n s → wpAny (model prog w) A (pyNext it) (fun r s₁ => match r with
      | none => R (.ok .next) s₁
      | some v => wpAny (model prog w) A (letOwnedTupleGo target it v) (fun _ s₁' => wpAny (model prog w) A (assign target env v) (fun _ s₂ =>
          wpAny (model prog w) A (forIn ifs true fun c r => if r = true then do let ok ← isTrue c env (eval c env); pure (ForInStep.yield ok) else pure (ForInStep.yield r)) (fun ok s₃ =>
            if ok = true then wpAny (model prog w) A (eval elt env) (fun x s₄ =>
              wpAny (model prog w) A (call (.builtin "list.append") [acc, x]) (fun _ s₅ => ∃ m, m < n ∧ I m s₅) (notedBy (model prog w) A env fun e s' => R (.error e) s') s₄) (notedBy (model prog w) A env fun e s' => R (.error e) s') s₃
            else ∃ m, m < n ∧ I m s₃) (notedBy (model prog w) A env fun e s' => R (.error e) s') s₂) (notedBy (model prog w) A env fun e s' => R (.error e) s') s₁') (notedBy (model prog w) A env fun e s' => R (.error e) s') s₁) (notedBy (model prog w) A env fun e s' => R (.error e) s') s)
    (n : Nat) (h : I n s) :
    codeAny (model prog w) A (.compLoop (.ListComp elt [⟨target, iter, ifs, 0⟩] scope pos) 0 it acc env) R s := by
  refine codeAny_loop rfl I (fun n s hI => ?_) n h
  show wpAny _ A ((compTurn (.ListComp elt [⟨target, iter, ifs, 0⟩] scope pos) 0 it acc env).onRaise (fun x => do noteFrame x env; theTreesLotGoes x)) _ _ s
  refine wpAny_noted ?_
  rw [compTurn_list]
  refine wpAny_bind (wpAny_standAt (wpAny_bind (wpAny_mono (turn n s hI) (fun r s₁ h₁ => ?_) fun _ _ h' => h')))
  cases r with
  | none => exact wpAny_pure h₁
  | some v =>
    refine wpAny_bind (wpAny_mono h₁ (fun _ s₁' h₁' => ?_) fun _ _ h' => h')
    refine wpAny_bind (wpAny_mono h₁' (fun _ s₂ h₂ => wpAny_bind (wpAny_mono h₂ (fun ok s₃ h₃ => ?_) fun _ _ h' => h')) fun _ _ h' => h')
    cases ok with
    | false => exact wpAny_pure ⟨rfl, h₃⟩
    | true =>
      exact wpAny_bind (wpAny_bind (wpAny_mono h₃ (fun x s₄ h₄ => wpAny_bind (wpAny_mono h₄ (fun _ s₅ h₅ => wpAny_pure (wpAny_pure ⟨rfl, h₅⟩)) fun _ _ h' => h')) fun _ _ h' => h'))

noncomputable def YT (w : World) (n : Nat) (env : Env) (r : Rho) (ifs : List Expr) (b : Bool) : Prop := ∀ A s Z, AOk n A → FIe w env Z r s.heap →
  wpAny (MM w) A (forIn ifs true fun c r => if r = true then do let ok ← isTrue c env (eval c env); pure (ForInStep.yield ok) else pure (ForInStep.yield r)) (fun v s' => Kp s s' ∧ v = b) NoE s
theorem YT.nil : YT w n env r [] true := fun _ s _ _ _ => wpAny_tests_nil ⟨Kp.refl s, rfl⟩
theorem YT.one {c : Expr} {b : Bool} (h : YB w n env r (isTrue c env (eval c env)) b) : YT w n env r [c] b := fun A s Z ao F => wpAny_tests_one (h A s Z ao F)

theorem range_succ_fm {α : Type} (p : Nat → Bool) (f : Nat → α) (i : Nat) : ((List.range (i + 1)).filter p).map f = ((List.range i).filter p).map f ++ (if p i then [f i] else []) := by
  rw [List.range_succ, List.filter_append, List.map_append]
  congr 1
  cases h : p i <;> simp [h]

theorem comp_block {elt target iter : Expr} {ifs : List Expr} {scope sc : Scope} {pos : Pos} {s0 s₂ : Shared} {Z : List Addr} {I : Addr} {fp wr : List Addr} {k : Nat} {xs : List Str} {P : Nat → List Value → Prop} {St : Nat → Heap → Prop}
    {gs : Nat → List D} {p : Nat → Bool} {f : Nat → D} {E : Value → Shared → Prop} {RR : Value → Addr → Result → Shared → Prop}
    (ao : AOk n A) (F : FIe w env Z r s0.heap) (hs : env.scope = sc) (ok : okComp sc r scope xs = true) (k02 : Kp s0 s₂) (W : Steps w A I fp wr k target xs P St) (hst : St 0 s₂.heap)
    (hfp : ∀ b ∈ fp, b < s₂.heap.objs.size) (hwr : ∀ b ∈ wr, s0.heap.get? b = none) (hwl : ∀ i h, St i h → ∀ b ∈ wr, ∃ o, h.get? b = some o) (hP : ∀ i vs, i < k → P i vs → Rds w s₂.heap (wr ++ Z) (gs i) vs) (hk : k ≤ sizeLine)
    (htest : ∀ i, i < k → ∀ env', env'.scope = relabS sc scope → YT w n env' (rcomp scope r xs (gs i)) ifs (p i))
    (helt : ∀ i, i < k → p i = true → ∀ env', env'.scope = relabS sc scope → Y w n env' (rcomp scope r xs (gs i)) (eval elt env') (f i))
    (hRR : ∀ D C h' tk m' ys N, s₂.heap.objs.size ≤ D → s₂.heap.objs.size ≤ C → D ≠ C → h'.Ns C m' → h'.get? D = some (lstO ys N) → Rds w h' (C :: D :: (wr ++ Z)) (((List.range k).filter p).map f) ys.toList →
      (∀ b o, b ∉ wr → s₂.heap.get? b = some o → h'.get? b = some o) → RR (.ref D) C (.ok .next) { s₂ with heap := h', toks := tk }) :
    wpAny (MM w) A (newList []) (fun acc s₃ => wpAny (MM w) A (newFunctionEnv scope env.globals (clo env scope.names []) [] env.qual none .none (some env)) (fun cenv s₄ =>
      codeAny (MM w) A (.compStart (.ListComp elt [⟨target, iter, ifs, 0⟩] scope pos) 0 (.ref I) acc { cenv with scope := relabel scope env }) (RR acc cenv.locals) s₄) E s₃) E s₂ := by
  have ok' := ok
  simp only [okComp, Bool.and_eq_true, decide_eq_true_eq, List.all_eq_true, Bool.or_eq_true, Bool.not_eq_true', decide_eq_false_iff_not] at ok'
  obtain ⟨⟨⟨⟨⟨hkind, hcell⟩, h3⟩, h4⟩, h5⟩, h6⟩ := ok'
  refine wpAny_newObj_type (wpAny_newFunctionEnv hcell (by intro y hy; simp at hy) (fun h₁ hns₁ hsb₁ => ?_) hkind)
  dsimp only at hns₁ hsb₁ ⊢
  generalize hH2 : s₂.heap.push { cls := .type "list", dict := none, data := .seq ([] : List Value).toArray } = H2 at hns₁ hsb₁ ⊢
  have hC : H2.objs.size = s₂.heap.objs.size + 1 := by rw [← hH2, Heap.size_push]
  have hDC : s₂.heap.objs.size ≠ H2.objs.size := by rw [hC]; exact Nat.ne_of_lt (Nat.lt_succ_self _)
  have below : ∀ b, b < s₂.heap.objs.size → b ≠ H2.objs.size ∧ b ≠ s₂.heap.objs.size := fun b hb => ⟨by rw [hC]; exact Nat.ne_of_lt (Nat.lt_succ_of_lt hb), Nat.ne_of_lt hb⟩
  have hDf : s₂.heap.objs.size ∉ fp := fun hm => Nat.lt_irrefl _ (hfp _ hm)
  have hCf : H2.objs.size ∉ fp := fun hm => by have := hfp _ hm; rw [hC] at this; exact Nat.lt_irrefl _ (Nat.lt_of_succ_lt this)
  have hCw : H2.objs.size ∉ wr := fun h => hCf (W.sub _ h)
  have hDw : s₂.heap.objs.size ∉ wr := fun h => hDf (W.sub _ h)
  have old : ∀ b o, s₂.heap.get? b = some o → h₁.get? b = some o := fun b o e => hsb₁.extBut b o (below b (Heap.lt_size e)).1 (Heap.get?_push_of_some _ (hH2 ▸ Heap.get?_push_of_some _ e))
  have hacc : h₁.get? s₂.heap.objs.size = some (lstO #[] 0) := hsb₁.extBut _ _ hDC (Heap.get?_push_of_some _ (hH2 ▸ Heap.get?_push_size _ rfl))
  have hst₁ : St 0 h₁ := W.frame _ _ _ hst fun b _ o e => old b o e
  have fresh2 : ∀ b, s₂.heap.objs.size ≤ b → s₂.heap.get? b = none := fun b hb => by
    cases q : s₂.heap.get? b with
    | none => rfl
    | some o => exact absurd (Heap.lt_size q) (Nat.not_lt.mpr hb)
  have fresh0 : ∀ b, s₂.heap.get? b = none → s0.heap.get? b = none := fun b hb => by
    cases q : s0.heap.get? b with
    | none => rfl
    | some o => rw [k02.k b o q] at hb; cases hb
  have grow2 : ∀ i vs, i < k → P i vs → Rds w s₂.heap ([H2.objs.size, s₂.heap.objs.size] ++ (wr ++ Z)) (gs i) vs := fun i vs hi hp =>
    (hP i vs hi hp).grow (fun _ _ e => e) fun b hb => by
      simp at hb
      rcases hb with rfl | rfl
      · exact fresh2 _ (by rw [hC]; exact Nat.le_succ _)
      · exact fresh2 _ (Nat.le_refl _)
  have loop : ∀ s₃ : Shared, s₃ = { s₂ with heap := h₁, toks := s₂.toks + ([] : List (Str × Value)).length } →
      codeAny (MM w) A (.compLoop (.ListComp elt [⟨target, iter, ifs, 0⟩] scope pos) 0 (.ref I) (.ref s₂.heap.objs.size) (compEnvC scope (clo env scope.names []) H2.objs.size env))
        (RR (.ref s₂.heap.objs.size) H2.objs.size) s₃ := by
    rintro s₃ rfl
    refine comp_loop
      (fun q s' => ∃ h' tk i m' ys N, s' = { s₂ with heap := h', toks := tk } ∧ i ≤ k ∧ q = k - i ∧ St i h' ∧ h'.Ns H2.objs.size m' ∧ h'.get? s₂.heap.objs.size = some (lstO ys N) ∧
        Rds w h' ([H2.objs.size, s₂.heap.objs.size] ++ (wr ++ Z)) (((List.range i).filter p).map f) ys.toList ∧ (∀ b o, b ∉ wr → s₂.heap.get? b = some o → h'.get? b = some o)) ?_ k
      ⟨h₁, _, 0, _, #[], 0, rfl, Nat.zero_le _, rfl, hst₁, hns₁, hacc, rfl, fun b o _ e => old b o e⟩
    rintro q s' ⟨h', tk, i, m', ys, N, rfl, hi, rfl, hst', hn', hD', hrd, hkp⟩
    by_cases hlt : i < k
    · refine W.turn i _ (compEnvC scope (clo env scope.names []) H2.objs.size env) m' _ _ _ hlt hst' hn' hCf (fun x hx => lookup_relabel_local (h4 x hx)) (by simp [compEnvC, relabel, hkind]) ?_
      intro vs h3 tk3 hPv hn3 hst3 hk3
      have hk3' : ∀ b o, b ∉ wr → s₂.heap.get? b = some o → h3.get? b = some o := fun b o hb e => hk3 b o hb (below b (Heap.lt_size e)).1 (hkp b o hb e)
      have hD3 := hk3 _ _ hDw hDC hD'
      have ez3 : ExtZ ([H2.objs.size, s₂.heap.objs.size] ++ (wr ++ Z)) s₂.heap h3 := fun b o hb e => hk3' b o (fun q => hb (by simp [q])) e
      have ez3' : ExtZ ([H2.objs.size, s₂.heap.objs.size] ++ (wr ++ Z)) h' h3 := fun b o hb e => hk3 b o (fun q => hb (by simp [q])) (fun q => hb (by simp [q, compEnvC])) e
      have rd3 := (grow2 i vs hlt hPv).mono ez3 fun _ q => q
      have k03 : ∀ b o, s0.heap.get? b = some o → h3.get? b = some o := fun b o e => hk3' b o (fun q => by rw [hwr b q] at e; cases e) (k02.k b o e)
      have Fc : FIe w (compEnvC scope (clo env scope.names []) H2.objs.size env) (([H2.objs.size, s₂.heap.objs.size] ++ wr) ++ Z) (rcomp scope r xs (gs i)) h3 := by
        refine FIe.comp F hs ok k03 (fun b hb => ?_) hn3 (by rw [List.append_assoc]; exact rd3)
        rcases List.mem_append.mp hb with hb | hb
        · simp at hb
          rcases hb with rfl | rfl
          · obtain ⟨oC, _, _, e, _⟩ := hn3
            exact ⟨fresh0 _ (fresh2 _ (by rw [hC]; exact Nat.le_succ _)), oC, e⟩
          · exact ⟨fresh0 _ (fresh2 _ (Nat.le_refl _)), _, hD3⟩
        · exact ⟨hwr b hb, hwl _ _ hst3 b hb⟩
      have sceq : (compEnvC scope (clo env scope.names []) H2.objs.size env).scope = relabS sc scope := relab_eq hs
      refine wpAny_mono (htest i hlt _ sceq A ⟨h3, s₂.gens, s₂.drawn, tk3, s₂.os⟩ _ ao Fc) (fun okb s4 ⟨k4, e4⟩ => ?_) fun _ _ e => e.elim
      subst e4
      have e4 := k4.eq
      cases hp : p i with
      | false =>
        simp only [Bool.false_eq_true, if_false]
        refine ⟨k - (i + 1), by apply Ar.b2 <;> assumption, s4.heap, s4.toks, i + 1, _, ys, N, by rw [e4], hlt, rfl, W.frame _ _ _ hst3 fun b _ o e => k4.k b o e, hn3.keeps k4.k, k4.k _ _ hD3, ?_, fun b o hb e => k4.k _ _ (hk3' b o hb e)⟩
        have hrd3 := (hrd.mono (h' := h3) (fun b o hb e => hk3 b o (fun q => hb (by simp [q])) (fun q => hb (by simp [q, compEnvC])) e) fun _ q => q).mono' k4.k
        rw [range_succ_fm, hp, if_neg (by decide), List.append_nil]
        exact hrd3
      | true =>
        simp only [if_true]
        refine wpAny_mono (helt i hlt hp _ sceq A s4 _ ao (Fc.keeps k4.k)) (fun y s5 ⟨k5, r5⟩ => ?_) fun _ _ e => e.elim
        have k45 := k4.trans k5
        have e5 := k45.eq
        have hlen : ys.size ≤ sizeLine := by
          have h1 := hrd.len
          rw [Array.length_toList, List.length_map] at h1
          have h2 := List.length_filter_le p (List.range i)
          rw [List.length_range] at h2
          lia
        refine append_at (hsz := hlen) (k45.k _ _ hD3) fun h6 hs6 hD6 => ?_
        refine ⟨k - (i + 1), by apply Ar.b2 <;> assumption, h6, s5.toks, i + 1, _, ys.push y, N + 1, by rw [e5], hlt, rfl, W.frame _ _ _ hst3 fun b hb o e => hs6.extBut b o (fun q => hDf (q ▸ hb)) (k45.k b o e), (hn3.keeps k45.k).sameBut hs6 (Ne.symm hDC), hD6, ?_,
          fun b o hb e => hs6.extBut b o (below b (Heap.lt_size e)).2 (k45.k _ _ (hk3' b o hb e))⟩
        have ez6 : ExtZ ([H2.objs.size, s₂.heap.objs.size] ++ (wr ++ Z)) s5.heap h6 := fun b o hb e => hs6.extBut b o (fun q => hb (by simp [q])) e
        have hrd3 := ((hrd.mono (h' := h3) (fun b o hb e => hk3 b o (fun q => hb (by simp [q])) (fun q => hb (by simp [q, compEnvC])) e) fun _ q => q).mono' k45.k).mono ez6 fun _ q => q
        rw [range_succ_fm, hp, if_pos rfl, Array.toList_push]
        rw [List.append_assoc] at r5
        exact hrd3.append (Rds.one (r5.mono ez6 fun _ q => q))
    · obtain rfl : i = k := Nat.le_antisymm hi (Nat.not_lt.mp hlt)
      refine W.done _ _ _ hst' fun h3 tk3 hk3 => ?_
      have hn3 := hn'.at' fun o e => hk3 _ o hCw e
      have ez3 : ExtZ ([H2.objs.size, s₂.heap.objs.size] ++ (wr ++ Z)) h' h3 := fun b o hb e => hk3 b o (fun q => hb (by simp [q])) e
      exact hRR _ _ h3 tk3 m' ys N (Nat.le_refl _) (by rw [hC]; exact Nat.le_succ _) hDC hn3 (hk3 _ _ hDw hD') (hrd.mono ez3 fun _ q => q) fun b o hb e => hk3 b o hb (hkp b o hb e)
  exact codeAny_compStart_list (loop _ rfl) (W.self 0 _ _ _ hst₁ (loop _ rfl))

noncomputable def Src (w : World) (n : Nat) (env : Env) (r : Rho) (iter : Expr) (target : Expr) (xs : List Str) (k : Nat) (gs : Nat → List D) : Prop :=
  ∀ A s Z, AOk n A → FIe w env Z r s.heap → wpAny (MM w) A (eval iter env) (fun xv s₁ => wpAny (MM w) A (pyIter xv) (fun it s₂ => ∃ I fp wr P St, it = .ref I ∧ Kp s s₂ ∧ Steps w A I fp wr k target xs P St ∧ St 0 s₂.heap ∧
    (∀ b ∈ fp, b < s₂.heap.objs.size) ∧ (∀ b ∈ wr, s.heap.get? b = none) ∧ (∀ i h, St i h → ∀ b ∈ wr, ∃ o, h.get? b = some o) ∧ (∀ i vs, i < k → P i vs → Rds w s₂.heap (wr ++ Z) (gs i) vs)) NoE s₁) NoE s

theorem okComp_free {sc scope : Scope} {xs : List Str} {h : Heap} {Z : List Addr} (F : FIe w env Z r h) (hs : env.scope = sc) (ok : okComp sc r scope xs = true) : closureFor scope env = pure (clo env scope.names []) := by
  simp only [okComp, Bool.and_eq_true, decide_eq_true_eq, List.all_eq_true, Bool.or_eq_true, Bool.not_eq_true', decide_eq_false_iff_not] at ok
  obtain ⟨⟨⟨⟨⟨h1, h2⟩, h3⟩, h4⟩, h5⟩, h6⟩ := ok
  refine closure_eq fun p hp hf => ?_
  have h5' := (h5 p hp).resolve_left (fun q => q hf)
  obtain ⟨d, hd⟩ := Option.isSome_iff_exists.mp h5'.1
  have hk : env.kindOf p.1 = some .cell ∨ env.kindOf p.1 = some .free := by
    show env.scope.names.lookup p.1 = _ ∨ env.scope.names.lookup p.1 = _
    rw [hs]; exact h5'.2
  obtain ⟨c, u, e1, _⟩ := F.cl p.1 d hd hk
  exact ⟨c, e1⟩
theorem okComp_kind {sc scope : Scope} {xs : List Str} (ok : okComp sc r scope xs = true) : scope.kind = .function ∧ ∀ y ∈ scope.names, y.2 = .local → scope.names.lookup y.1 = some .local := by
  simp only [okComp, Bool.and_eq_true, decide_eq_true_eq, List.all_eq_true, Bool.or_eq_true, Bool.not_eq_true', decide_eq_false_iff_not] at ok
  obtain ⟨⟨⟨⟨⟨h1, h2⟩, h3⟩, h4⟩, h5⟩, h6⟩ := ok
  exact ⟨h1, fun y hy hl => (h3 y hy).resolve_left fun q => q hl⟩

theorem Y.comp {elt target iter : Expr} {ifs : List Expr} {scope sc : Scope} {pos : Pos} {xs : List Str} {k : Nat} {gs : Nat → List D} {p : Nat → Bool} {f : Nat → D} (hs : env.scope = sc) (hsrc : Src w n env r iter target xs k gs) (ok : okComp sc r scope xs = true)
    (hfold : ∀ x, foldedSetIterable iter env x = pure x) (hk : k ≤ sizeLine)
    (htest : ∀ i, i < k → ∀ env', env'.scope = relabS sc scope → YT w n env' (rcomp scope r xs (gs i)) ifs (p i))
    (helt : ∀ i, i < k → p i = true → ∀ env', env'.scope = relabS sc scope → Y w n env' (rcomp scope r xs (gs i)) (eval elt env') (f i)) :
    Y w n env r (eval (.ListComp elt [⟨target, iter, ifs, 0⟩] scope pos) env) (.lst (((List.range k).filter p).map f)) := fun A s Z ao F => by
  rw [eval_ListComp]
  have okk := okComp_kind ok
  refine wpAny_comprehension_free (use := Option.none) rfl hfold (okComp_free F hs ok) okk.1 okk.2 (wpAny_mono (hsrc A s Z ao F) (fun xv s₁ h₁ => wpAny_mono h₁ (fun it s₂ h₂ => ?_) fun _ _ e => e) fun _ _ e => e)
  obtain ⟨I, fp, wr, P, St, rfl, k02, W, hst, hfp, hwr, hwl, hP⟩ := h₂
  refine comp_block (RR := fun acc C => compPost (MM w) A NoE Option.none (fun v s' => Kp s s' ∧ Rd w s'.heap Z (.lst (((List.range k).filter p).map f)) v) acc C) ao F hs ok k02 W hst hfp hwr hwl hP hk htest helt ?_
  intro D C h' tk m' ys N hD hC hDC hn hl hrd hkp
  refine ⟨m', hn, fun h'' hs'' => ⟨⟨?_, ?_⟩, D, ys, N, rfl, ?_, hs''.extBut _ _ hDC hl, hrd.mono (fun b o hb e => hs''.extBut b o (fun q => hb (by simp [q])) e) fun b hb => by simp [hb]⟩⟩
  · rw [k02.eq]
  · intro b o e
    have e2 := k02.k b o e
    exact hs''.extBut b o (fun q => by have := Heap.lt_size e2; rw [q] at this; exact Nat.lt_irrefl _ (Nat.lt_of_lt_of_le this hC)) (hkp b o (fun q => by rw [hwr b q] at e; cases e) e2)
  · intro hz
    obtain ⟨_, o, e⟩ := F.z D hz
    exact Nat.lt_irrefl _ (Nat.lt_of_lt_of_le (Heap.lt_size (k02.k D o e)) hD)

theorem asgComp {x : Str} {px spos : Pos} {rest : List Stmt} {PP : Fl → Rho → Prop} {elt target iter : Expr} {ifs : List Expr} {scope sc : Scope} {pos : Pos} {xs : List Str} {k : Nat} {gs : Nat → List D} {p : Nat → Bool} {f : Nat → D} (hs : env.scope = sc) (hsrc : Src w n env r iter target xs k gs) (ok : okComp sc r scope xs = true)
    (hsw : swapsWith (.ListComp elt [⟨target, iter, ifs, 0⟩] scope pos) (some (.Name x px)) spos.line env = pure true) (hx : KindOk env x)
    (hfold : ∀ x, foldedSetIterable iter env x = pure x) (hk : k ≤ sizeLine)
    (htest : ∀ i, i < k → ∀ env', env'.scope = relabS sc scope → YT w n env' (rcomp scope r xs (gs i)) ifs (p i))
    (helt : ∀ i, i < k → p i = true → ∀ env', env'.scope = relabS sc scope → Y w n env' (rcomp scope r xs (gs i)) (eval elt env') (f i))
    (h : X w n env (rset r x (.lst (((List.range k).filter p).map f))) (execs rest env) PP) :
    X w n env r (execs (.Assign [.Name x px] (.ListComp elt [⟨target, iter, ifs, 0⟩] scope pos) spos :: rest) env) PP :=
  X.seq fun A s Zo Z hb ao F => by
    rw [exec_Assign_Name_used _ _ _ _ hsw]
    refine wpAny_bind (wpAny_standAt (wpAny_bind ?_))
    show wpAny _ A (do let _ ← comprehension (.ListComp elt [⟨target, iter, ifs, 0⟩] scope pos) scope env _ (newList []) false (eval iter env) (some (assign (.Name x px) env))) _ _ s
    have okk := okComp_kind ok
    refine wpAny_bind (wpAny_mono (wpAny_comprehension_free (use := some (assign (.Name x px) env)) (Q := fun _ s' => ∃ f' r', Beh w n env rest PP f' r' ∧ FlRd w s'.heap (Zo ++ Z) f' .next ∧ FIs w env Zo Z hb r' s'.heap ∧ Same Zo s s') rfl hfold (okComp_free F.e hs ok) okk.1 okk.2
      (wpAny_mono (hsrc A s _ ao F.e) (fun xv s₁ h₁ => wpAny_mono h₁ (fun it s₂ h₂ => ?_) fun _ _ e => e) fun _ _ e => e)) (fun _ s' hq => wpAny_pure (wpAny_pure hq)) fun _ _ e => e)
    obtain ⟨I, fp, wr, P, St, rfl, k02, W, hst, hfp, hwr, hwl, hP⟩ := h₂
    refine comp_block (RR := fun acc C => compPost (MM w) A NoE (some (assign (.Name x px) env)) (fun _ s' => ∃ f' r', Beh w n env rest PP f' r' ∧ FlRd w s'.heap (Zo ++ Z) f' .next ∧ FIs w env Zo Z hb r' s'.heap ∧ Same Zo s s') acc C) ao F.e hs ok k02 W hst hfp hwr hwl hP hk htest helt ?_
    intro D C h' tk m' ys N hD hC hDC hn hl hrd hkp
    have keep : ∀ b o, s.heap.get? b = some o → h'.get? b = some o := fun b o e => hkp b o (fun q => by rw [hwr b q] at e; cases e) (k02.k b o e)
    have notZ : ∀ a, s₂.heap.objs.size ≤ a → a ∉ Zo ++ Z := fun a ha hz => by
      obtain ⟨_, o, e⟩ := F.e.z a hz
      exact Nat.lt_irrefl _ (Nat.lt_of_lt_of_le (Heap.lt_size (k02.k a o e)) ha)
    have kp0 : Kp s { s₂ with heap := h', toks := tk } := ⟨by rw [k02.eq], keep⟩
    have hCs : s.heap.get? C = none := by
      cases q : s.heap.get? C with
      | none => rfl
      | some o => exact absurd (Heap.lt_size (k02.k C o q)) (Nat.not_lt.mpr hC)
    have hCb : hb.get? C = none := by
      cases q : hb.get? C with
      | none => rfl
      | some o => rw [F.kp C o q] at hCs; cases hCs
    obtain ⟨oC, hoC⟩ : ∃ o, h'.get? C = some o := by obtain ⟨o, _, _, e, _⟩ := hn; exact ⟨o, e⟩
    have hg : ∀ b ∈ [C], s.heap.get? b = none := fun b hb => by rw [List.mem_singleton.mp hb]; exact hCs
    have Fw : FIs w env Zo ([C] ++ Z) hb r h' := F.widen (Wl := [C]) keep (fun b hb => ⟨hg b hb, by rw [List.mem_singleton.mp hb]; exact ⟨oC, hoC⟩⟩) fun d v x => Rd.grow keep hg d v x
    have hCz : C ∉ Zo := fun q => notZ C hC (List.mem_append_left _ q)
    have hCZ : C ∉ Z := fun q => notZ C hC (List.mem_append_right _ q)
    have hDn : D ∉ Zo ++ ([C] ++ Z) := fun q => by
      simp only [List.mem_append, List.mem_singleton] at q
      rcases q with q | q | q
      · exact notZ D hD (List.mem_append_left _ q)
      · exact hDC q
      · exact notZ D hD (List.mem_append_right _ q)
    show wpAny _ A (assign (.Name x px) env (.ref D)) _ _ _
    refine wpAny_assign_Name (store_name (Z := [C] ++ Z) (s := { s₂ with heap := h', toks := tk }) Fw (d := .lst (((List.range k).filter p).map f)) ⟨D, ys, N, rfl, hDn, hl, hrd.mono (fun b o _ e => e) fun b hb => ?_⟩ hx fun s' F' e ez => ?_)
    · simp only [List.mem_append, List.mem_singleton] at hb
      simp only [List.mem_cons, List.mem_append]
      rcases hb with q | q | q
      · exact .inr (.inr (.inr (.inl q)))
      · exact .inl q
      · exact .inr (.inr (.inr (.inr q)))
    refine ⟨m', hn.at' fun o e => ez C o hCz e, fun h'' hs'' => ⟨.nxt, _, h, rfl, (F'.change (Wl := [C]) (Wk := []) (fun b o hb e => hs''.extBut b o (fun q => hb (by simp [q])) e) (fun b hb => ?_) (fun b hb => by cases hb) : FIs w env Zo ([] ++ Z) hb _ h''), ?_⟩⟩
    · rw [List.mem_singleton.mp hb]; exact ⟨hCz, hCZ, hCb⟩
    · have e1 : Same Zo s s' := kp0.same.trans e
      refine ⟨by show { s' with heap := h'' } = _; rw [e1.eq], fun b o hb' e' => hs''.extBut b o (fun q => by rw [q, hCs] at e'; cases e') (e1.k b o hb' e')⟩
end
end Uni
namespace Uni
section
variable {w : World} {n : Nat} {env : Env} {r : Rho} {P : Fl → Rho → Prop} {rest : List Stmt}
noncomputable def rl (l : List (Str × D)) : Rho := fun x => l.lookup x
noncomputable abbrev RLe (r' r : Rho) : Prop := ∀ x d, r' x = some d → r x = some d
noncomputable def AllIn : List (Str × D) → Rho → Prop
  | [], _ => True
  | p :: ps, r => r p.1 = some p.2 ∧ AllIn ps r
theorem rle_of : ∀ {l : List (Str × D)} {r : Rho}, AllIn l r → RLe (rl l) r := by
  intro l r h x d e
  have hm := mem_of_lookup (l := l) e
  clear e
  induction l with
  | nil => cases hm
  | cons p ps ih =>
    cases hm with
    | head => exact h.1
    | tail _ hm => exact ih h.2 hm
theorem X.whileI {ι : Type} {test : Expr} {body : List Stmt} {pos : Pos} (B : ι → List (Str × D)) (I : Nat → ι → Prop) (m : Nat) (i0 : ι) (h0 : I m i0) (le0 : AllIn (B i0) r)
    (turn : ∀ m i, I m i → ∃ b, YB w n env (rl (B i)) (isTrue test env (eval test env)) b ∧
      (b = true → X w n env (rl (B i)) (execs body env) (fun f r' => match f with | .nxt | .cnt => ∃ m' i', m' < m ∧ I m' i' ∧ AllIn (B i') r' | .brk => X w n env r' (execs rest env) P | .ret d => P (.ret d) r')) ∧
      (b = false → X w n env (rl (B i)) (execs rest env) P)) :
    X w n env r (execs (.While test body [] pos :: rest) env) P := by
  refine X.weak (rle_of le0) (X.while (fun m r => ∃ i, I m i ∧ r = rl (B i)) m ⟨i0, h0, rfl⟩ ?_)
  rintro m _ ⟨i, hi, rfl⟩
  obtain ⟨b, ht, h1, h2⟩ := turn m i hi
  refine ⟨b, ht, fun hb => fun A s Zo Z hbb ao F => ?_, h2⟩
  refine wpAny_mono (h1 hb A s Zo Z hbb ao F) (fun fl s' hZ => ?_) fun _ _ e => e
  obtain ⟨f, r', p, q, F', e⟩ := hZ
  cases f with
  | nxt =>
    obtain ⟨m', i', lt, hi', le'⟩ := p
    exact ⟨.nxt, rl (B i'), ⟨m', lt, i', hi', rfl⟩, q, F'.weak (rle_of le'), e⟩
  | cnt =>
    obtain ⟨m', i', lt, hi', le'⟩ := p
    exact ⟨.cnt, rl (B i'), ⟨m', lt, i', hi', rfl⟩, q, F'.weak (rle_of le'), e⟩
  | brk => exact ⟨.brk, r', p, q, F', e⟩
  | ret d => exact ⟨.ret d, r', p, q, F', e⟩
end
end Uni
namespace Uni
section
variable {w : World} {n : Nat} {h : Heap} {Z : List Addr}
theorem lst_list {vs : Array Value} {a k} (e : h.get? a = some (lstO vs k)) : h.IsList a vs.toList.toArray := by simpa using lstO_isList e
theorem AOk.u {n : Nat} {A : Around} (a : AOk (n + 1) A) : A.units + 64 < cLine := by have := a.un; lia
theorem CmpOK.eqLI {a b : List Int} : CmpOK w (n + 1) .Eq (.lst (a.map .int)) (.lst (b.map .int)) (a == b) := fun A s Z x y ao _ _ ⟨p, vs, _, e1, _, e2, e3⟩ ⟨q, us, _, e4, _, e5, e6⟩ => by
  subst e1; subst e4
  refine ke_eq_ints (lst_list e2) (lst_list e5) e3.ints e6.ints ao.u ⟨Kp.refl _, ?_⟩
  rw [Bool.eq_iff_iff.mpr (by simp : decide (a = b) = true ↔ (a == b) = true)]
theorem CmpOK.neLI {a b : List Int} : CmpOK w (n + 1) .NotEq (.lst (a.map .int)) (.lst (b.map .int)) (a != b) := fun A s Z x y ao _ _ ⟨p, vs, _, e1, _, e2, e3⟩ ⟨q, us, _, e4, _, e5, e6⟩ => by
  subst e1; subst e4
  refine ke_ne_ints (lst_list e2) (lst_list e5) e3.ints e6.ints ao.u ⟨Kp.refl _, ?_⟩
  rw [bne, Bool.eq_iff_iff.mpr (by simp : decide (a = b) = true ↔ (a == b) = true)]
theorem CmpOK.neLI0 {a : List Int} : CmpOK w (n + 1) .NotEq (.lst (a.map .int)) (.lst []) (a != []) := CmpOK.neLI (b := [])

theorem rds_strs_carried : ∀ {ss : List Str} {vs : List Value}, Rds w h Z (ss.map D.str) vs → CarriedAll vs (ss.map PyData.str)
  | [], _, r => by cases r; exact .nil
  | x :: ss, _, r => by
    obtain ⟨v, r', rfl, ⟨t, rfl⟩, h3⟩ := r
    exact .cons (.str x t) (rds_strs_carried h3)
theorem canLay_strs : ∀ ns : List Str, ns.all PyData.strOk = true → PyData.canLayAll0 (ns.map PyData.str) = true
  | [], _ => rfl
  | _ :: r, h => by
    rw [List.all_cons, Bool.and_eq_true] at h
    simp [PyData.canLayAll0, PyData.canLay0, canLay_strs r h.2, h.1]
theorem depth_strs : ∀ ns : List Str, PyData.depthAll (ns.map PyData.str) = 0
  | [] => rfl
  | _ :: r => by simp [PyData.depthAll, PyData.depth, depth_strs r]
theorem shaped_strs (ns : List Str) (hn : ns.all PyData.strOk = true) : SeqAt.shaped (.list (ns.map PyData.str)) = true := by
  simp [SeqAt.shaped, PyData.canLay0, PyData.depth, canLay_strs ns hn, depth_strs]
theorem sameAll_strs : ∀ ns ms : List Str, PySem.Spec.sameAll (ns.map PyData.str) (ms.map PyData.str) = (ns == ms)
  | [], [] => by simp [PySem.Spec.sameAll]
  | [], _ :: _ => by simp [PySem.Spec.sameAll]
  | _ :: _, [] => by simp [PySem.Spec.sameAll]
  | a :: r, b :: t => by
    simp only [List.map_cons, PySem.Spec.sameAll, PySem.Spec.same, sameAll_strs r t]
    by_cases h : a = b <;> by_cases h' : r = t <;> simp [h, h']
theorem CmpOK.eqLS {a b : List Str} (ha : a.all PyData.strOk = true) (hb : b.all PyData.strOk = true) : CmpOK w (n + 1) .Eq (.lst (a.map .str)) (.lst (b.map .str)) (a == b) := fun A s Z x y ao _ _ ⟨p, vs, _, e1, _, e2, e3⟩ ⟨q, us, _, e4, _, e5, e6⟩ => by
  subst e1; subst e4
  refine eq_dataH_same (reads_newData (lst_list e2) (rds_strs_carried e3)) (reads_newData (lst_list e5) (rds_strs_carried e6)) (shaped_strs _ ha) (shaped_strs _ hb) ao.u
    (SeqAt.noMix_of_shape (.list .str) rfl _ _ (list_map_has fun _ => rfl) (list_map_has fun _ => rfl)) ⟨Kp.refl _, ?_⟩
  simp only [PySem.Spec.same, sameAll_strs]
theorem CmpOK.eqLS1 {a : List Str} {x : Str} (ha : a.all PyData.strOk = true) (hx : [x].all PyData.strOk = true) : CmpOK w (n + 1) .Eq (.lst (a.map .str)) (.lst [.str x]) (a == [x]) := CmpOK.eqLS (b := [x]) ha hx

noncomputable abbrev prD (p : Int × Int) : D := .tup [.int p.1, .int p.2]
noncomputable abbrev prP (p : Int × Int) : PyData := .tuple [.int p.1, .int p.2]
theorem rds_prs_reads : ∀ {ss : List (Int × Int)} {vs : List Value}, Rds w h Z (ss.map prD) vs → ReadsAll h vs (ss.map prP) []
  | [], _, r => by cases r; exact .nil
  | x :: ss, _, r => by
    obtain ⟨v, r', rfl, ⟨a, us, m, rfl, _, e1, e2⟩, h3⟩ := r
    obtain ⟨u1, u2, e3, ⟨t1, e4⟩, ⟨t2, e5⟩⟩ := e2.two_of
    refine ReadsAll.cons (as := []) (bs := []) (.tuple e1 rfl rfl ?_) (rds_prs_reads h3)
    rw [e3, e4, e5]
    exact ReadsAll.cons (as := []) (bs := []) (.int _ _) (ReadsAll.cons (as := []) (bs := []) (.int _ _) .nil)
theorem canLay_prs : ∀ ns : List (Int × Int), PyData.canLayAll0 (ns.map prP) = true
  | [] => rfl
  | _ :: r => by simp [PyData.canLayAll0, PyData.canLay0, canLay_prs r]
theorem depth_prs : ∀ ns : List (Int × Int), PyData.depthAll (ns.map prP) ≤ 1
  | [] => by simp [PyData.depthAll]
  | _ :: r => by have := depth_prs r; simp [PyData.depthAll, PyData.depth]; lia
theorem shaped_prs (ns : List (Int × Int)) : SeqAt.shaped (.list (ns.map prP)) = true := by
  have := depth_prs ns
  simp [SeqAt.shaped, PyData.canLay0, PyData.depth, canLay_prs]; lia
theorem sameAll_prs : ∀ ns ms : List (Int × Int), PySem.Spec.sameAll (ns.map prP) (ms.map prP) = (ns == ms)
  | [], [] => by simp [PySem.Spec.sameAll]
  | [], _ :: _ => by simp [PySem.Spec.sameAll]
  | _ :: _, [] => by simp [PySem.Spec.sameAll]
  | (a, b) :: r, (c, d) :: t => by
    simp only [List.map_cons, PySem.Spec.sameAll, PySem.Spec.same, sameAll_prs r t]
    rw [show ((a, b) :: r == (c, d) :: t) = ((a == c && b == d) && r == t) from rfl]
    by_cases h : a = c <;> by_cases h'' : b = d <;> by_cases h' : r = t <;> simp [h, h', h'']
theorem CmpOK.eqLP {a b : List (Int × Int)} : CmpOK w (n + 1) .Eq (.lst (a.map prD)) (.lst (b.map prD)) (a == b) := fun A s Z x y ao _ _ ⟨p, vs, _, e1, _, e2, e3⟩ ⟨q, us, _, e4, _, e5, e6⟩ => by
  subst e1; subst e4
  refine eq_dataH_same (.list e2 rfl rfl (rds_prs_reads e3)) (.list e5 rfl rfl (rds_prs_reads e6)) (shaped_prs _) (shaped_prs _) ao.u
    (SeqAt.noMix_of_shape (.list (.tuple [.int, .int])) rfl _ _ (list_map_has fun _ => rfl) (list_map_has fun _ => rfl)) ⟨Kp.refl _, ?_⟩
  simp only [PySem.Spec.same, sameAll_prs]
noncomputable def optI : Option Int → D
  | none => .none
  | some i => .int i
theorem CmpOK.neO : ∀ {a b : Option Int}, CmpOK w n .NotEq (optI a) (optI b) (a != b)
  | none, none => fun A s Z x y _ _ _ e1 e2 => by cases e1; cases e2; exact PySem.EqNone.ne_none_none ⟨Kp.refl _, rfl⟩
  | none, some b => fun A s Z x y _ _ _ e1 ⟨_, e2⟩ => by cases e1; subst e2; exact PySem.EqNone.ne_none_int ⟨Kp.refl _, rfl⟩
  | some a, none => fun A s Z x y _ _ _ ⟨_, e1⟩ e2 => by cases e2; subst e1; exact PySem.EqNone.ne_int_none ⟨Kp.refl _, rfl⟩
  | some a, some b => fun A s Z x y _ _ _ ⟨_, e1⟩ ⟨_, e2⟩ => by
    subst e1; subst e2
    exact PyProof.Rows.ne_int ⟨Kp.refl _, by rw [show (some a != some b) = (a != b) from by by_cases h : a = b <;> simp [h, bne]]⟩
end
end Uni
namespace Uni
section
variable {w : World} {n : Nat} {env : Env} {r : Rho} {A : Around}

theorem Steps.name {I : Addr} {fp wr : List Addr} {k : Nat} {P : Nat → Value → Prop} {St : Nat → Heap → Prop} (W : Walks PySem.Challenge.rw_nt0055_01.row.prog w A I fp wr k P St) (x : Str) (px : Pos) :
    Steps w A I fp wr k (.Name x px) [x] (fun i vs => ∃ v, P i v ∧ vs = [v]) St where
  sub := W.sub
  frame := W.frame
  done := W.done
  self := W.self
  turn := fun i s env m Q E NN hi hst hn hf hx hp hQ => by
    refine W.item i s _ _ hi hst fun v h' tk hP hst' hk => ?_
    show wpAny (MM w) A (pure () : Sem Unit) _ _ _
    refine wpAny_pure (wpAny_assign_Name (wpAny_storeName_local (hx x (by simp)) (hn.at' fun o e => hk _ o (fun q => hf (W.sub _ q)) e) (fun h₂ hn₂ hs₂ => ?_) hp))
    refine hQ [v] h₂ _ ⟨v, hP, rfl⟩ hn₂ (W.frame _ _ _ hst' fun b hb o e => hs₂.extBut b o (fun q => hf (q ▸ hb)) e) fun b o hb hbl e => hs₂.extBut b o hbl (hk b o hb e)

theorem Steps.pair {I : Addr} {fp wr : List Addr} {k : Nat} {P : Nat → Array Value → Prop} {St : Nat → Heap → Prop} {Mid : Nat → Addr → Heap → Prop} (hh : A.handled = none) (W : WalksT PySem.Challenge.rw_nt0055_01.row.prog w A I fp wr k P St Mid) (x y : Str) (px py tp : Pos) (kk : Nat)
    (hP2 : ∀ i vs, P i vs → ∃ a b, vs = #[a, b]) :
    Steps w A I fp wr k (.Tuple [.Name x px, .Name y py] kk tp) [x, y] (fun i vs => ∃ arr, P i arr ∧ vs = arr.toList) St where
  sub := W.sub
  frame := W.frame
  done := W.done
  self := W.self
  turn := fun i s env m Q E NN hi hst hn hf hx hp hQ => by
    refine W.item i s _ _ hi hst fun T vals h' tk hP hlt hT hm hk => ?_
    have hfw : env.locals ∉ wr := fun q => hf (W.sub _ q)
    refine W.go _ _ _ i T _ _ _ hm fun h₂ hst₂ hk₂ => ?_
    obtain ⟨a, b, rfl⟩ := hP2 i vals hP
    have hT₂ : IsTup h₂ T #[a, b] := by
      obtain ⟨o, e1, e2, nn, e3⟩ := hT
      exact ⟨o, hk₂ _ _ (W.apart _ _ _ hm) e1, e2, nn, e3⟩
    refine assign_Tuple_tuple hh hT₂ rfl rfl fun h₃ he => ?_
    have he' : ∀ b o, h₂.get? b = some o → h₃.get? b = some o := fun b o e => he b o (Nat.ne_of_lt (Heap.lt_size e)) e
    refine assignInOrder_cons (wpAny_assign_Name (wpAny_storeName_local (hx x (by simp)) (((hn.at' fun o e => hk _ o hfw e).at' fun o e => hk₂ _ o hfw e).at' fun o e => he' _ o e) (fun h₄ hn₄ hs₄ => ?_) hp))
    refine assignInOrder_cons (wpAny_assign_Name (wpAny_storeName_local (hx y (by simp)) hn₄ (fun h₅ hn₅ hs₅ => ?_) hp))
    refine assignInOrder_nil (hQ [a, b] h₅ _ ⟨#[a, b], hP, rfl⟩ hn₅ (W.frame _ _ _ hst₂ fun c hc o e => ?_) fun c o hc hcl e => ?_)
    · have q : c ≠ env.locals := fun q => hf (q ▸ hc)
      exact hs₅.extBut c o q (hs₄.extBut c o q (he' c o e))
    · exact hs₅.extBut c o hcl (hs₄.extBut c o hcl (he' c o (hk₂ c o hc (hk c o hc e))))

theorem get_none_of {s s1 : Heap} {b : Addr} (k : ∀ b o, s.get? b = some o → s1.get? b = some o) (hb : s1.objs.size ≤ b) : s.get? b = none := by
  cases q : s.get? b with
  | none => rfl
  | some o => exact absurd (Heap.lt_size (k b o q)) (Nat.not_lt.mpr hb)
theorem rds_at {h : Heap} {Z : List Addr} {l : List D} {vs : List Value} (rd : Rds w h Z l vs) {i : Nat} {v : Value} (e : vs[i]? = some v) : Rd w h Z (l.getD i .none) v := by
  have hi : i < l.length := by
    rw [← rd.len]
    rcases Nat.lt_or_ge i vs.length with c | c
    · exact c
    · rw [List.getElem?_eq_none c] at e; cases e
  obtain ⟨u, e1, e2⟩ := rd.get (List.getElem?_eq_getElem hi)
  rw [e] at e1; cases e1
  rw [List.getD_eq_getElem?_getD, List.getElem?_eq_getElem hi]
  exact e2

noncomputable def SrcV (w : World) (n : Nat) (env : Env) (r : Rho) (iter : Expr) (k : Nat) (gs : Nat → D) : Prop :=
  ∀ A s Z, AOk n A → FIe w env Z r s.heap → wpAny (MM w) A (eval iter env) (fun xv s₁ => wpAny (MM w) A (pyIter xv) (fun it s₂ => ∃ I fp wr P St, it = .ref I ∧ Kp s s₂ ∧ Walks PySem.Challenge.rw_nt0055_01.row.prog w A I fp wr k P St ∧ St 0 s₂.heap ∧
    (∀ b ∈ fp, b < s₂.heap.objs.size) ∧ (∀ b ∈ fp, b ∉ Z) ∧ (∀ b ∈ wr, s.heap.get? b = none) ∧ (∀ i h, St i h → ∀ b ∈ wr, ∃ o, h.get? b = some o) ∧ (∀ i v, i < k → P i v → Rd w s₂.heap (wr ++ Z) (gs i) v)) NoE s₁) NoE s
theorem Src.ofV {iter : Expr} {k : Nat} {gs : Nat → D} {x : Str} {px : Pos} (h : SrcV w n env r iter k gs) : Src w n env r iter (.Name x px) [x] k (fun i => [gs i]) := fun A s Z ao F =>
  wpAny_mono (h A s Z ao F) (fun xv s₁ h1 => wpAny_mono h1 (fun it s₂ ⟨I, fp, wr, P, St, e1, k1, W, h1, h2, h2', h3, h4, h5⟩ =>
    ⟨I, fp, wr, _, St, e1, k1, Steps.name W x px, h1, h2, h3, h4, fun i vs hi ⟨v, hp, e⟩ => by subst e; exact Rds.one (h5 i v hi hp)⟩) fun _ _ e => e) fun _ _ e => e
theorem SrcV.list {iter : Expr} {l : List D} (hv : Y w n env r (eval iter env) (.lst l)) : SrcV w n env r iter l.length (fun i => l.getD i .none) := fun A s Z ao F =>
  wpAny_mono (hv A s Z ao F) (fun xv s₁ hZ => by
    obtain ⟨k1, a, vs, m, e1, e2, e3, e4⟩ := hZ
    subst e1
    have hL := lstO_isList e3
    have hlt : a < s₁.heap.objs.size := Heap.lt_size e3
    refine wpAny_pyIter_list hL ?_
    have up : ∀ b o, s₁.heap.get? b = some o → (s₁.heap.push { cls := .type "list_iterator", data := .fields #[.ref a, .int 0 0] }).get? b = some o := fun b o e => Heap.get?_push_of_some _ e
    have hsz : vs.size = l.length := by rw [← e4.len, Array.length_toList]
    have W := Walks.list (prog := PySem.Challenge.rw_nt0055_01.row.prog) (w := w) ao.hd s₁.heap.objs.size a (Nat.ne_of_lt hlt) vs
    rw [hsz] at W
    have fresh : ∀ b ∈ [s₁.heap.objs.size], s.heap.get? b = none := fun b hb => by
      rw [List.mem_singleton.mp hb]; exact get_none_of k1.k (Nat.le_refl _)
    have fresh1 : ∀ b ∈ [s₁.heap.objs.size], s₁.heap.get? b = none := fun b hb => by
      rw [List.mem_singleton.mp hb]; exact get_none_of (fun _ _ e => e) (Nat.le_refl _)
    refine ⟨_, _, _, _, _, rfl, k1.trans (Kp.push _ _), W, ⟨⟨_, Heap.get?_push_size _ rfl, rfl, rfl⟩, hL.push _⟩, fun b hb => ?_, fun b hb => ?_, fresh, fun i h st b hb => ?_, fun i v hi hv => ?_⟩
    · show b < (s₁.heap.push _).objs.size
      rw [Heap.size_push]
      rcases List.mem_cons.mp hb with rfl | hb
      · exact Nat.lt_succ_self _
      · rw [List.mem_singleton.mp hb]; exact Nat.lt_succ_of_lt hlt
    · rcases List.mem_cons.mp hb with rfl | hb
      · exact (F.z.keeps k1.k).fresh
      · rw [List.mem_singleton.mp hb]; exact e2
    · rw [List.mem_singleton.mp hb]
      obtain ⟨o, e, _⟩ := st.1
      exact ⟨o, e⟩
    · have r2 : Rds w (s₁.heap.push { cls := .type "list_iterator", data := .fields #[.ref a, .int 0 0] }) ([s₁.heap.objs.size] ++ Z) l vs.toList := e4.grow up fresh1
      exact rds_at r2 (by simpa using hv)) fun _ _ e => e

theorem range_src {A : Around} {s s1 : Shared} {Z : List Addr} {a b : Int} {t u v : Tok} (ao : AOk n A) (hz : ZOk w Z s.heap) (k1 : Kp s s1) (hr : IsRange s1.heap s1.heap.objs.size.pred a b 1 t u v) (hsm : Builtin.Range.small a b 1 = true) (hsz : 0 < s1.heap.objs.size) :
    wpAny (MM w) A (pyIter (.ref s1.heap.objs.size.pred)) (fun it s₂ => ∃ I fp wr P St, it = .ref I ∧ Kp s s₂ ∧ Walks PySem.Challenge.rw_nt0055_01.row.prog w A I fp wr (b - a).toNat P St ∧ St 0 s₂.heap ∧
    (∀ b ∈ fp, b < s₂.heap.objs.size) ∧ (∀ b ∈ fp, b ∉ Z) ∧ (∀ b ∈ wr, s.heap.get? b = none) ∧ (∀ i h, St i h → ∀ b ∈ wr, ∃ o, h.get? b = some o) ∧ (∀ i v, i < (b - a).toNat → P i v → Rd w s₂.heap (wr ++ Z) (.int (a + i)) v)) NoE s1 := by
  refine wpAny_pyIter_range hr hsm ?_
  have W := Walks.range (prog := PySem.Challenge.rw_nt0055_01.row.prog) (w := w) ao.hd s1.heap.objs.size a 1 (b - a).toNat
  have fresh : ∀ b ∈ [s1.heap.objs.size], s.heap.get? b = none := fun b hb => by
    rw [List.mem_singleton.mp hb]; exact get_none_of k1.k (Nat.le_refl _)
  refine ⟨_, _, _, _, _, rfl, k1.trans (Kp.push _ _), W, ?_, fun b hb => ?_, fun b hb => ?_, fresh, fun i h st b hb => ?_, fun i v hi hp => ?_⟩
  · show Heap.get? _ _ = _
    refine (Heap.get?_push_size _ rfl).trans ?_
    have e1 : a + ((0 : Nat) : Int) * 1 = a := by simp
    have e2 : ((b - a).toNat : Int) - ((0 : Nat) : Int) = Builtin.Range.rangeSize a b 1 := by
      rw [rangeSize_one]
      split <;> first | (apply Ar.r3 <;> assumption) | lia
    rw [e1, e2]
  · show b < (s1.heap.push _).objs.size
    rw [Heap.size_push, List.mem_singleton.mp hb]; exact Nat.lt_succ_self _
  · rw [List.mem_singleton.mp hb]
    exact (hz.keeps k1.k).fresh
  · rw [List.mem_singleton.mp hb]
    exact ⟨_, st⟩
  · obtain ⟨t, hv⟩ := hp
    rw [hv]
    exact ⟨t, by rw [Int.mul_one]⟩
theorem biRange : BiOk w "range" (.type "range") := ⟨by kernel_rfl, by kernel_rfl, by decide, rfl⟩
theorem biEnum : BiOk w "enumerate" (.type "enumerate") := ⟨by kernel_rfl, by kernel_rfl, by decide, rfl⟩
theorem biZip : BiOk w "zip" (.type "zip") := ⟨by kernel_rfl, by kernel_rfl, by decide, rfl⟩

theorem SrcV.range1 {p pos : Pos} {e : Expr} {b : Int} (hx : env.kindOf "range" = some .globalImplicit) (he : starEach [e] env = (false, eval e env) :: starEach [] env) (hpl : (backTo pos (starEach [e] env)).any (·.1) = false)
    (hv : Y w n env r (eval e env) (.int b)) (hb : -(2 ^ 62) ≤ b ∧ b < 2 ^ 62) : SrcV w n env r (.Call (.Name "range" p) [e] [] pos) b.toNat (fun i => .int i) := fun A s Z ao F => by
  refine wpAny_Call_Name_kw (bi_name F hx (biRange (w := w)).e (biRange (w := w)).hv (biRange (w := w)).hn (biRange (w := w)).hd (PySem.callWith_type hpl (args_plain (S.consA he hv Ys.nil) ao F he fun vs s' k rds => ?_)))
  obtain ⟨v, rfl, t, rfl⟩ := rds.one_of
  refine call_range_1 ?_
  have := range_src (w := w) (Z := Z) (s := s) (s1 := { s' with heap := s'.heap.push { cls := .type "range", data := .fields #[.int 0 s'.toks, .int b t, .int 1 (s'.toks + 1)] }, toks := s'.toks + 1 + 1 }) (a := 0) (b := b) ao F.z (k.trans (Kp.push _ _))
    (by show IsRange _ (s'.heap.push _).objs.size.pred _ _ _ _ _ _; rw [Heap.size_push]; exact IsRange.new _ _ _ _ _ _ _) (small_one (by decide) (by decide) hb.1 hb.2) (by show 0 < (s'.heap.push _).objs.size; rw [Heap.size_push]; exact Nat.succ_pos _)
  simp only [Heap.size_push, Nat.pred_succ, Int.sub_zero, Int.zero_add] at this
  exact this
theorem SrcV.range2 {p pos : Pos} {e1 e2 : Expr} {a b : Int} (hx : env.kindOf "range" = some .globalImplicit) (he : starEach [e1, e2] env = (false, eval e1 env) :: starEach [e2] env) (he' : starEach [e2] env = (false, eval e2 env) :: starEach [] env)
    (hpl : (backTo pos (starEach [e1, e2] env)).any (·.1) = false)
    (hv : Y w n env r (eval e1 env) (.int a)) (hv2 : Y w n env r (eval e2 env) (.int b)) (hb : (-(2 ^ 62) ≤ a ∧ a < 2 ^ 62) ∧ (-(2 ^ 62) ≤ b ∧ b < 2 ^ 62)) :
    SrcV w n env r (.Call (.Name "range" p) [e1, e2] [] pos) (b - a).toNat (fun i => .int (a + i)) := fun A s Z ao F => by
  refine wpAny_Call_Name_kw (bi_name F hx (biRange (w := w)).e (biRange (w := w)).hv (biRange (w := w)).hn (biRange (w := w)).hd (PySem.callWith_type hpl (args_plain (S.consA he hv (S.consA he' hv2 Ys.nil)) ao F he fun vs s' k rds => ?_)))
  obtain ⟨v, u, rfl, ⟨t, rfl⟩, ⟨t2, rfl⟩⟩ := rds.two_of
  refine call_range_2 ?_
  have := range_src (w := w) (Z := Z) (s := s) (s1 := { s' with heap := s'.heap.push { cls := .type "range", data := .fields #[.int a t, .int b t2, .int 1 s'.toks] }, toks := s'.toks + 1 }) (a := a) (b := b) ao F.z (k.trans (Kp.push _ _))
    (by show IsRange _ (s'.heap.push _).objs.size.pred _ _ _ _ _ _; rw [Heap.size_push]; exact IsRange.new _ _ _ _ _ _ _) (small_one hb.1.1 hb.1.2 hb.2.1 hb.2.2) (by show 0 < (s'.heap.push _).objs.size; rw [Heap.size_push]; exact Nat.succ_pos _)
  simp only [Heap.size_push, Nat.pred_succ] at this
  exact this
theorem Src.enum {p pos : Pos} {e : Expr} {l : List D} {x y : Str} {px py tp : Pos} {kk : Nat} (hx : env.kindOf "enumerate" = some .globalImplicit) (he : starEach [e] env = (false, eval e env) :: starEach [] env) (hpl : (backTo pos (starEach [e] env)).any (·.1) = false)
    (hv : Y w n env r (eval e env) (.lst l)) : Src w n env r (.Call (.Name "enumerate" p) [e] [] pos) (.Tuple [.Name x px, .Name y py] kk tp) [x, y] l.length (fun i => [.int i, l.getD i .none]) := fun A s Z ao F => by
  refine wpAny_Call_Name_kw (bi_name F hx (biEnum (w := w)).e (biEnum (w := w)).hv (biEnum (w := w)).hn (biEnum (w := w)).hd (PySem.callWith_type hpl (args_plain (S.consA he hv Ys.nil) ao F he fun vs s' k rds => ?_)))
  obtain ⟨v, rfl, a, vs, m, rfl, e2, e3, e4⟩ := rds.one_of
  have hL := lstO_isList e3
  have hlt : @LT.lt Nat _ a s'.heap.objs.size := Heap.lt_size e3
  refine call_enumerate_list hL fun h' hE hI hz hk => wpAny_pyIter_enum hE ?_
  have hsz : vs.size = l.length := by rw [← e4.len, Array.length_toList]
  have W := WalksT.enumerate (prog := PySem.Challenge.rw_nt0055_01.row.prog) (w := w) ao.hd (s'.heap.objs.size + 1) s'.heap.objs.size a (show @Ne Nat _ _ by lia) (show @Ne Nat _ _ by lia) (show @Ne Nat _ _ by apply Ar.j8 <;> assumption) vs
  rw [hsz] at W
  have fresh1 : ∀ b ∈ [s'.heap.objs.size + 1, s'.heap.objs.size], s'.heap.get? b = none := fun b hb => by
    refine get_none_of (fun _ _ e => e) ?_
    simp at hb; lia
  refine ⟨_, _, _, _, _, rfl, k.trans ⟨rfl, hk⟩, Steps.pair ao.hd W x y px py tp kk (fun i vs ⟨t, v, _, e⟩ => ⟨_, _, e⟩), ⟨⟨_, hE⟩, hI, hL.at fun o e => hk _ o e⟩, fun b hb => ?_, fun b hb => ?_, fun i h st b hb => ?_, fun i vs' hi hp => ?_⟩
  · show @LT.lt Nat _ b h'.objs.size
    simp only [List.mem_cons, List.not_mem_nil, or_false] at hb
    rcases hb with rfl | rfl | rfl <;> first | (apply Ar.v1 <;> assumption) | lia
  · cases q : s.heap.get? b with
    | none => rfl
    | some o => have := fresh1 b hb; rw [k.k b o q] at this; cases this
  · simp at hb
    rcases hb with rfl | rfl
    · obtain ⟨⟨old, e⟩, _⟩ := st; exact ⟨_, e⟩
    · obtain ⟨_, ⟨o, e, _⟩, _⟩ := st; exact ⟨_, e⟩
  · obtain ⟨arr, ⟨t, v, hv, rfl⟩, rfl⟩ := hp
    have r2 : Rds w h' ([s'.heap.objs.size + 1, s'.heap.objs.size] ++ Z) l vs.toList := e4.grow hk fresh1
    exact Rds.two ⟨t, rfl⟩ (rds_at r2 (by simpa using hv))
theorem Src.zip {p pos : Pos} {e1 e2 : Expr} {l1 l2 : List D} {x y : Str} {px py tp : Pos} {kk : Nat} (hx : env.kindOf "zip" = some .globalImplicit) (he : starEach [e1, e2] env = (false, eval e1 env) :: starEach [e2] env) (he' : starEach [e2] env = (false, eval e2 env) :: starEach [] env)
    (hpl : (backTo pos (starEach [e1, e2] env)).any (·.1) = false)
    (hv1 : Y w n env r (eval e1 env) (.lst l1)) (hv2 : Y w n env r (eval e2 env) (.lst l2)) : Src w n env r (.Call (.Name "zip" p) [e1, e2] [] pos) (.Tuple [.Name x px, .Name y py] kk tp) [x, y] (min l1.length l2.length) (fun i => [l1.getD i .none, l2.getD i .none]) := fun A s Z ao F => by
  refine wpAny_Call_Name_kw (bi_name F hx (biZip (w := w)).e (biZip (w := w)).hv (biZip (w := w)).hn (biZip (w := w)).hd (PySem.callWith_type hpl (args_plain (S.consA he hv1 (S.consA he' hv2 Ys.nil)) ao F he fun vs s' k rds => ?_)))
  obtain ⟨v, u, rfl, ⟨a1, v1, m1, rfl, e2, e3, e4⟩, ⟨a2, v2, m2, rfl, f2, f3, f4⟩⟩ := rds.two_of
  have hL1 := lstO_isList e3
  have hL2 := lstO_isList f3
  have hlt1 : @LT.lt Nat _ a1 s'.heap.objs.size := Heap.lt_size e3
  have hlt2 : @LT.lt Nat _ a2 s'.heap.objs.size := Heap.lt_size f3
  refine call_zip_2 hL1 hL2 fun h' hZ hTI hTO hI1 hI2 hz hk => wpAny_pyIter_zip hZ ?_
  have hsz1 : v1.size = l1.length := by rw [← e4.len, Array.length_toList]
  have hsz2 : v2.size = l2.length := by rw [← f4.len, Array.length_toList]
  have W := WalksT.zip2 (prog := PySem.Challenge.rw_nt0055_01.row.prog) (w := w) ao.hd (s'.heap.objs.size + 4) (s'.heap.objs.size + 2) (s'.heap.objs.size + 3) s'.heap.objs.size (s'.heap.objs.size + 1) a1 a2 (by constructor <;> exact (show @Ne Nat _ _ by lia)) v1 v2
  rw [hsz1, hsz2] at W
  have fresh1 : ∀ b ∈ [s'.heap.objs.size + 4, s'.heap.objs.size + 3, s'.heap.objs.size, s'.heap.objs.size + 1], s'.heap.get? b = none := fun b hb => by
    refine get_none_of (fun _ _ e => e) ?_
    simp at hb; lia
  refine ⟨_, _, _, _, _, rfl, k.trans ⟨rfl, hk⟩, Steps.pair ao.hd W x y px py tp kk (fun i vs ⟨t, v, _, _, e⟩ => ⟨_, _, e⟩), ⟨hZ, hTI, ⟨_, _, hTO⟩, hI1, hI2, hL1.at fun o e => hk _ o e, hL2.at fun o e => hk _ o e⟩, fun b hb => ?_, fun b hb => ?_, fun i h st b hb => ?_, fun i vs' hi hp => ?_⟩
  · show @LT.lt Nat _ b h'.objs.size
    simp only [List.mem_cons, List.not_mem_nil, or_false] at hb
    rcases hb with rfl | rfl | rfl | rfl | rfl | rfl | rfl <;> first | (apply Ar.v1 <;> assumption) | lia
  · cases q : s.heap.get? b with
    | none => rfl
    | some o => have := fresh1 b hb; rw [k.k b o q] at this; cases this
  · obtain ⟨g1, g2, ⟨_, _, g3⟩, ⟨o1, g4, _⟩, ⟨o2, g5, _⟩, _⟩ := st
    simp at hb
    rcases hb with rfl | rfl | rfl | rfl
    · exact ⟨_, g1⟩
    · exact ⟨_, g3⟩
    · exact ⟨_, g4⟩
    · exact ⟨_, g5⟩
  · obtain ⟨arr, ⟨c1, c2, hc1, hc2, rfl⟩, rfl⟩ := hp
    have r1 : Rds w h' ([s'.heap.objs.size + 4, s'.heap.objs.size + 3, s'.heap.objs.size, s'.heap.objs.size + 1] ++ Z) l1 v1.toList := e4.grow hk fresh1
    have r2 : Rds w h' ([s'.heap.objs.size + 4, s'.heap.objs.size + 3, s'.heap.objs.size, s'.heap.objs.size + 1] ++ Z) l2 v2.toList := f4.grow hk fresh1
    exact Rds.two (rds_at r1 (by simpa using hc1)) (rds_at r2 (by simpa using hc2))
end
end Uni
namespace Uni
section
variable {w : World} {n : Nat} {env : Env} {r : Rho} {P : Fl → Rho → Prop} {rest : List Stmt}

theorem forX {x : Str} {p pos : Pos} {iter : Expr} {body : List Stmt} {k : Nat} {gs : Nat → D} (hsrc : SrcV w n env r iter k gs) (hx : KindOk env x) (hfold : ∀ x, foldedSetIterable iter env x = pure x)
    (I : Nat → Rho → Prop) (h0 : I 0 r)
    (turn : ∀ i r1, i < k → I i r1 → X w n env (rset r1 x (gs i)) (execs body env) (fun f r' => match f with | .nxt | .cnt => I (i + 1) r' | .brk => X w n env r' (execs rest env) P | .ret d => P (.ret d) r'))
    (hend : ∀ r1, I k r1 → X w n env r1 (execs rest env) P) :
    X w n env r (execs (.For (.Name x p) iter body [] pos :: rest) env) P :=
  X.seq fun A s Zo Z hb ao F => by
    refine wpAny_For (wpAny_mono (hsrc A s (Zo ++ Z) ao F.e) (fun xv s₁ h₁ => wpAny_mono h₁ (fun it s₂ h₂ => ?_) fun _ _ e => e) fun _ _ e => e) hfold
    obtain ⟨J, fp, wr, Q, St, rfl, k02, W, hst, hfp, hfz, hwr, hwl, hP⟩ := h₂
    have liveZ : ∀ b ∈ Zo ++ Z, ∃ o, s.heap.get? b = some o := fun b hb => (F.e.z b hb).2
    have wz : ∀ b ∈ wr, b ∉ Zo ∧ b ∉ Z ∧ hb.get? b = none := fun b hbw => by
      have hn := hwr b hbw
      refine ⟨fun q => ?_, fun q => ?_, ?_⟩
      · obtain ⟨o, e⟩ := liveZ b (List.mem_append_left _ q); rw [hn] at e; cases e
      · obtain ⟨o, e⟩ := liveZ b (List.mem_append_right _ q); rw [hn] at e; cases e
      · cases q : hb.get? b with
        | none => rfl
        | some o => rw [F.kp b o q] at hn; cases hn
    have F2 : FIs w env Zo (wr ++ Z) hb r s₂.heap := F.widen k02.k (fun b hb => ⟨hwr b hb, hwl _ _ hst b hb⟩) fun d v x => Rd.grow k02.k hwr d v x
    have perm : ∀ {h d v}, Rd w h (wr ++ (Zo ++ Z)) d v → Rd w h (Zo ++ (wr ++ Z)) d v := fun x => x.mono (.of_keeps fun _ _ e => e) fun b hb => by
      simp only [List.mem_append] at hb ⊢
      rcases hb with q | q | q
      · exact .inr (.inl q)
      · exact .inl q
      · exact .inr (.inr q)
    have back : ∀ {h d v}, Rd w h (Zo ++ (wr ++ Z)) d v → Rd w h (Zo ++ Z) d v := fun x => x.mono (.of_keeps fun _ _ e => e) fun b hb => by
      simp only [List.mem_append] at hb ⊢
      exact hb.imp id .inr
    refine codeAny_forLoop (fun m s' => ∃ i r1, I i r1 ∧ i ≤ k ∧ m = k - i ∧ St i s'.heap ∧ FIs w env Zo (wr ++ Z) hb r1 s'.heap ∧ Same Zo s s' ∧ (∀ b o, b ∉ wr → b ∉ Zo → s₂.heap.get? b = some o → s'.heap.get? b = some o))
      ?_ k ⟨0, r, h0, Nat.zero_le _, rfl, hst, F2, k02.same, fun _ _ _ _ e => e⟩
    rintro m s' ⟨i, r1, hI, hi, rfl, hst', F', sm, hk2⟩
    by_cases hlt : i < k
    · refine W.item i s' _ _ hlt hst' fun v h' tk hPv hst3 hk3 => ?_
      have F3 : FIs w env Zo (wr ++ Z) hb r1 h' := F'.change (Wl := wr) (Wk := wr) hk3 wz fun b hb => ⟨hb, hwl _ _ hst3 b hb⟩
      have rv : Rd w h' (Zo ++ (wr ++ Z)) (gs i) v := perm ((hP i v hlt hPv).mono (fun b o hb e => hk3 b o (fun q => hb (by simp [q])) (hk2 b o (fun q => hb (by simp [q])) (fun q => hb (by simp [q])) e)) fun _ q => q)
      have sm3 : Same Zo s { s' with heap := h', toks := tk } := ⟨by rw [sm.eq], fun b o hb e => hk3 b o (fun q => by rw [hwr b q] at e; cases e) (sm.k b o hb e)⟩
      refine wpAny_assign_Name (wpAny_mono (store_name (s := { s' with heap := h', toks := tk }) (Q := fun _ s4 => FIs w env Zo (wr ++ Z) hb (rset r1 x (gs i)) s4.heap ∧ Same Zo { s' with heap := h', toks := tk } s4) F3 rv hx fun s4 F4 e4 ez4 => ⟨F4, e4⟩) (fun _ s4 ⟨F4, e4⟩ => ?_) fun _ _ e => e.elim)
      have hst4 : St (i + 1) s4.heap := W.frame _ _ _ hst3 fun b hb o e => e4.k b o (fun q => hfz b hb (List.mem_append_left _ q)) e
      have k24 : ∀ b o, b ∉ wr → b ∉ Zo → s₂.heap.get? b = some o → s4.heap.get? b = some o := fun b o h1 h2 e => e4.k b o h2 (hk3 b o h1 (hk2 b o h1 h2 e))
      refine wpAny_mono (turn i r1 hlt hI A s4 Zo (wr ++ Z) hb ao F4) (fun fl s5 hZ => ?_) fun _ _ e => e.elim
      obtain ⟨f, r', p, q, F5, e5⟩ := hZ
      have sm5 := (sm3.trans e4).trans e5
      have hst5 : St (i + 1) s5.heap := W.frame _ _ _ hst4 fun b hb o e => e5.k b o (fun q => hfz b hb (List.mem_append_left _ q)) e
      have k25 : ∀ b o, b ∉ wr → b ∉ Zo → s₂.heap.get? b = some o → s5.heap.get? b = some o := fun b o h1 h2 e => e5.k b o h2 (k24 b o h1 h2 e)
      cases f with
      | nxt => cases q; exact ⟨k - (i + 1), by apply Ar.b2 <;> assumption, i + 1, r', p, hlt, rfl, hst5, F5, sm5, k25⟩
      | cnt => cases q; exact ⟨k - (i + 1), by apply Ar.b2 <;> assumption, i + 1, r', p, hlt, rfl, hst5, F5, sm5, k25⟩
      | brk => cases q; exact ⟨.nxt, r', p, rfl, F5.narrow, sm5⟩
      | ret d => obtain ⟨v, rfl, rd⟩ := q; exact ⟨.ret d, r', p, ⟨v, rfl, back rd⟩, F5.narrow, sm5⟩
    · obtain rfl : i = k := Nat.le_antisymm hi (Nat.not_lt.mp hlt)
      refine W.done s' _ _ hst' fun h' tk hk3 => wpAny_execs_nil ?_
      have F3 : FIs w env Zo ([] ++ Z) hb r1 h' := F'.change (Wl := wr) (Wk := []) hk3 wz fun b hb => by cases hb
      have sm3 : Same Zo s { s' with heap := h', toks := tk } := ⟨by rw [sm.eq], fun b o hb e => hk3 b o (fun q => by rw [hwr b q] at e; cases e) (sm.k b o hb e)⟩
      exact ⟨.nxt, r1, hend r1 hI, rfl, F3, sm3⟩

theorem BinOK.addL {a b : List D} (hz : a.length + b.length ≤ sizeLine) : BinOK w n .Add (.lst a) (.lst b) (.lst (a ++ b)) := fun A s Z x y ao W hzk ⟨p, vs, _, e1, h1, e2, e3⟩ ⟨q, us, _, e4, h2, e5, e6⟩ => by
  subst e1; subst e4
  have hs : vs.size + us.size ≤ sizeLine := by
    rw [← Array.length_toList, e3.len, ← Array.length_toList, e6.len]; exact hz
  refine PySem.P.add_list (hsz := hs) e2 e5 ⟨Kp.push _ _, _, _, 0, rfl, hzk.fresh, Heap.get?_push_size _ rfl, ?_⟩
  rw [Array.toList_append]
  exact (e3.append e6).mono' fun _ _ e => Heap.get?_push_of_some _ e
theorem BinOK.addM {α : Type} {g : α → D} {a b : List α} (hz : a.length + b.length ≤ sizeLine) : BinOK w n .Add (.lst (a.map g)) (.lst (b.map g)) (.lst ((a ++ b).map g)) := by
  rw [List.map_append]
  exact BinOK.addL (by rw [List.length_map, List.length_map]; exact hz)

theorem getD_map_lt {α : Type} [Inhabited α] {g : α → D} {its : List α} {i : Nat} (h : i < its.length) : (its.map g).getD i .none = g (its.getD i default) := by
  rw [List.getD_eq_getElem?_getD, List.getD_eq_getElem?_getD, List.getElem?_map, List.getElem?_eq_getElem h]; rfl
theorem getD_mem {α : Type} [Inhabited α] {its : List α} {i : Nat} (h : i < its.length) : its.getD i default ∈ its := by
  rw [List.getD_eq_getElem?_getD, List.getElem?_eq_getElem h]; exact List.getElem_mem h
theorem range_getD {α : Type} [Inhabited α] (its : List α) : (List.range its.length).map (fun i => its.getD i default) = its := by
  refine List.ext_getElem (by simp) fun i h1 h2 => ?_
  simp [List.getElem?_eq_getElem h2]
theorem range_fm {α β : Type} [Inhabited α] (its : List α) (q : α → Bool) (f : α → β) : ((List.range its.length).filter (fun i => q (its.getD i default))).map (fun i => f (its.getD i default)) = (its.filter q).map f := by
  conv => rhs; rw [← range_getD its]
  rw [List.filter_map, List.map_map]
  rfl

theorem Y.compM {α : Type} [Inhabited α] {elt iter : Expr} {ifs : List Expr} {scope sc : Scope} {pos px : Pos} {x : Str} {kk : Nat} {its : List α} {g : α → D} {q : α → Bool} {f : α → D} (hs : env.scope = sc) (hv : Y w n env r (eval iter env) (.lst (its.map g))) (ok : okComp sc r scope [x] = true)
    (hfold : ∀ x, foldedSetIterable iter env x = pure x) (hk : its.length ≤ sizeLine)
    (htest : ∀ a ∈ its, ∀ env', env'.scope = relabS sc scope → YT w n env' (rcomp scope r [x] [g a]) ifs (q a))
    (helt : ∀ a ∈ its, q a = true → ∀ env', env'.scope = relabS sc scope → Y w n env' (rcomp scope r [x] [g a]) (eval elt env') (f a)) :
    Y w n env r (eval (.ListComp elt [⟨.Name x px, iter, ifs, 0⟩] scope pos) env) (.lst ((its.filter q).map f)) := by
  have h := Y.comp (elt := elt) (ifs := ifs) (pos := pos) (p := fun i => q (its.getD i default)) (f := fun i => f (its.getD i default)) hs (Src.ofV (x := x) (px := px) (SrcV.list hv)) ok hfold (by rw [List.length_map]; exact hk)
    (fun i hi env' hs' => by
      rw [List.length_map] at hi
      rw [getD_map_lt hi]
      exact htest _ (getD_mem hi) env' hs')
    (fun i hi hp env' hs' => by
      rw [List.length_map] at hi
      rw [getD_map_lt hi]
      exact helt _ (getD_mem hi) hp env' hs')
  rw [List.length_map, range_fm its q f] at h
  exact h
theorem asgCompM {α : Type} [Inhabited α] {y : Str} {py spos : Pos} {elt iter : Expr} {ifs : List Expr} {scope sc : Scope} {pos px : Pos} {x : Str} {its : List α} {g : α → D} {q : α → Bool} {f : α → D} (hs : env.scope = sc) (hv : Y w n env r (eval iter env) (.lst (its.map g))) (ok : okComp sc r scope [x] = true)
    (hsw : swapsWith (.ListComp elt [⟨.Name x px, iter, ifs, 0⟩] scope pos) (some (.Name y py)) spos.line env = pure true) (hy : KindOk env y)
    (hfold : ∀ x, foldedSetIterable iter env x = pure x) (hk : its.length ≤ sizeLine)
    (htest : ∀ a ∈ its, ∀ env', env'.scope = relabS sc scope → YT w n env' (rcomp scope r [x] [g a]) ifs (q a))
    (helt : ∀ a ∈ its, q a = true → ∀ env', env'.scope = relabS sc scope → Y w n env' (rcomp scope r [x] [g a]) (eval elt env') (f a))
    (h : X w n env (rset r y (.lst ((its.filter q).map f))) (execs rest env) P) :
    X w n env r (execs (.Assign [.Name y py] (.ListComp elt [⟨.Name x px, iter, ifs, 0⟩] scope pos) spos :: rest) env) P := by
  refine asgComp (elt := elt) (ifs := ifs) (pos := pos) (p := fun i => q (its.getD i default)) (f := fun i => f (its.getD i default)) hs (Src.ofV (x := x) (px := px) (SrcV.list hv)) ok hsw hy hfold (by rw [List.length_map]; exact hk)
    (fun i hi env' hs' => by
      rw [List.length_map] at hi
      rw [getD_map_lt hi]
      exact htest _ (getD_mem hi) env' hs')
    (fun i hi hp env' hs' => by
      rw [List.length_map] at hi
      rw [getD_map_lt hi]
      exact helt _ (getD_mem hi) hp env' hs') ?_
  rw [List.length_map, range_fm its q f]
  exact h

theorem Y.compG {α β : Type} [Inhabited α] {elt iter : Expr} {ifs : List Expr} {scope sc : Scope} {pos px : Pos} {x : Str} {its : List α} {g : α → D} {q : α → Bool} (h : β → D) (f : α → β) (hs : env.scope = sc) (hv : Y w n env r (eval iter env) (.lst (its.map g))) (ok : okComp sc r scope [x] = true)
    (hfold : ∀ x, foldedSetIterable iter env x = pure x) (hk : its.length ≤ sizeLine)
    (htest : ∀ a ∈ its, ∀ env', env'.scope = relabS sc scope → YT w n env' (rcomp scope r [x] [g a]) ifs (q a))
    (helt : ∀ a ∈ its, q a = true → ∀ env', env'.scope = relabS sc scope → Y w n env' (rcomp scope r [x] [g a]) (eval elt env') (h (f a))) :
    Y w n env r (eval (.ListComp elt [⟨.Name x px, iter, ifs, 0⟩] scope pos) env) (.lst (((its.filter q).map f).map h)) := by
  rw [List.map_map]
  exact Y.compM (kk := 0) hs hv ok hfold hk htest helt
theorem filter_tt {α : Type} (l : List α) : l.filter (fun _ => true) = l := by simp
theorem Y.compG0 {α β : Type} [Inhabited α] {elt iter : Expr} {scope sc : Scope} {pos px : Pos} {x : Str} {its : List α} {g : α → D} (h : β → D) (f : α → β) (hs : env.scope = sc) (hv : Y w n env r (eval iter env) (.lst (its.map g))) (ok : okComp sc r scope [x] = true)
    (hfold : ∀ x, foldedSetIterable iter env x = pure x) (hk : its.length ≤ sizeLine)
    (helt : ∀ a ∈ its, ∀ env', env'.scope = relabS sc scope → Y w n env' (rcomp scope r [x] [g a]) (eval elt env') (h (f a))) :
    Y w n env r (eval (.ListComp elt [⟨.Name x px, iter, [], 0⟩] scope pos) env) (.lst ((its.map f).map h)) := by
  have := Y.compG (pos := pos) (px := px) (q := fun _ => true) h f hs hv ok hfold hk (fun _ _ _ _ => YT.nil) (fun a ha _ env' hs' => helt a ha env' hs')
  rwa [filter_tt] at this
theorem asgCompG {α β : Type} [Inhabited α] {y : Str} {py spos : Pos} {elt iter : Expr} {ifs : List Expr} {scope sc : Scope} {pos px : Pos} {x : Str} {its : List α} {g : α → D} {q : α → Bool} (hh : β → D) (f : α → β) (hs : env.scope = sc) (hv : Y w n env r (eval iter env) (.lst (its.map g))) (ok : okComp sc r scope [x] = true)
    (hsw : swapsWith (.ListComp elt [⟨.Name x px, iter, ifs, 0⟩] scope pos) (some (.Name y py)) spos.line env = pure true) (hy : KindOk env y)
    (hfold : ∀ x, foldedSetIterable iter env x = pure x) (hk : its.length ≤ sizeLine)
    (htest : ∀ a ∈ its, ∀ env', env'.scope = relabS sc scope → YT w n env' (rcomp scope r [x] [g a]) ifs (q a))
    (helt : ∀ a ∈ its, q a = true → ∀ env', env'.scope = relabS sc scope → Y w n env' (rcomp scope r [x] [g a]) (eval elt env') (hh (f a)))
    (h : X w n env (rset r y (.lst (((its.filter q).map f).map hh))) (execs rest env) P) :
    X w n env r (execs (.Assign [.Name y py] (.ListComp elt [⟨.Name x px, iter, ifs, 0⟩] scope pos) spos :: rest) env) P := by
  refine asgCompM hs hv ok hsw hy hfold hk htest helt ?_
  rw [List.map_map] at h
  exact h
end
end Uni
namespace Uni
inductive Ow where
  | lst (l : List D)
  | dct (es : List (Str × D))
  | inst (c dx : Addr) (fs : List (Str × D))
  | raw (o : Obj)
noncomputable def OwAt (w : World) (h : Heap) (Z : List Addr) (a : Addr) : Ow → Prop
  | .lst l => ∃ vs n, h.get? a = some (lstO vs n) ∧ Rds w h Z l vs.toList
  | .dct es => ∃ vs n, h.get? a = some (dctO vs n) ∧ Rde w h Z es vs.toList ∧ (a == sysModules) = false
  | .inst c dx fs => ∃ vs n, h.get? a = some (instObj c dx) ∧ h.get? dx = some (dctO vs n) ∧ Rde w h Z fs vs.toList
  | .raw o => h.get? a = some o
noncomputable def placesOf : Addr × Ow → List Addr
  | (a, .inst _ dx _) => [a, dx]
  | (a, _) => [a]
noncomputable def places : List (Addr × Ow) → List Addr
  | [] => []
  | p :: os => placesOf p ++ places os
noncomputable abbrev Os := List (Addr × Ow)
theorem placesOf_sub {p : Addr × Ow} {os : Os} (h : p ∈ os) : ∀ b ∈ placesOf p, b ∈ places os := by
  induction os with
  | nil => cases h
  | cons q os ih =>
    intro b hb
    rcases List.mem_cons.mp h with rfl | h
    · exact List.mem_append_left _ hb
    · exact List.mem_append_right _ (ih h b hb)
theorem OwAt.live {w : World} {h : Heap} {Z : List Addr} {p : Addr × Ow} (x : OwAt w h Z p.1 p.2) : ∀ b ∈ placesOf p, ∃ o, h.get? b = some o := by
  obtain ⟨a, o⟩ := p
  cases o with
  | lst l => obtain ⟨vs, n, e, _⟩ := x; intro b hb; rw [List.mem_singleton.mp hb]; exact ⟨_, e⟩
  | dct l => obtain ⟨vs, n, e, _⟩ := x; intro b hb; rw [List.mem_singleton.mp hb]; exact ⟨_, e⟩
  | inst c dx fs =>
    obtain ⟨vs, n, e, e2, _⟩ := x
    intro b hb
    rcases List.mem_cons.mp hb with rfl | hb
    · exact ⟨_, e⟩
    · rw [List.mem_singleton.mp hb]; exact ⟨_, e2⟩
  | raw o => intro b hb; rw [List.mem_singleton.mp hb]; exact ⟨_, x⟩
theorem OwAt.mono {w : World} {h h' : Heap} {Z Z' : List Addr} {p : Addr × Ow} (x : OwAt w h Z p.1 p.2) (k : ExtZ Z h h') (kp : ∀ b ∈ placesOf p, ∀ o, h.get? b = some o → h'.get? b = some o) (z : ∀ b, b ∈ Z' → b ∈ Z) : OwAt w h' Z' p.1 p.2 := by
  obtain ⟨a, o⟩ := p
  cases o with
  | lst l => obtain ⟨vs, n, e, e2⟩ := x; exact ⟨vs, n, kp a (by simp [placesOf]) _ e, e2.mono k z⟩
  | dct l => obtain ⟨vs, n, e, e2, e3⟩ := x; exact ⟨vs, n, kp a (by simp [placesOf]) _ e, Rde.mono k z _ _ e2, e3⟩
  | inst c dx fs => obtain ⟨vs, n, e, e2, e3⟩ := x; exact ⟨vs, n, kp a (by simp [placesOf]) _ e, kp dx (by simp [placesOf]) _ e2, Rde.mono k z _ _ e3⟩
  | raw o => exact kp a (by simp [placesOf]) _ x
theorem OwAt.grow {w : World} {h h' : Heap} {Z Zo : List Addr} {p : Addr × Ow} (x : OwAt w h Z p.1 p.2) (k : ∀ b o, h.get? b = some o → h'.get? b = some o) (z : ∀ b ∈ Zo, h.get? b = none) : OwAt w h' (Zo ++ Z) p.1 p.2 := by
  obtain ⟨a, o⟩ := p
  cases o with
  | lst l => obtain ⟨vs, n, e, e2⟩ := x; exact ⟨vs, n, k _ _ e, e2.grow k z⟩
  | dct l => obtain ⟨vs, n, e, e2, e3⟩ := x; exact ⟨vs, n, k _ _ e, Rde.grow k z _ _ e2, e3⟩
  | inst c dx fs => obtain ⟨vs, n, e, e2, e3⟩ := x; exact ⟨vs, n, k _ _ e, k _ _ e2, Rde.grow k z _ _ e3⟩
  | raw o => exact k _ _ x

structure FIm (w : World) (env : Env) (Zo Z : List Addr) (hb : Heap) (r : Rho) (os : Os) (h : Heap) : Prop where
  fi : FIs w env Zo (places os ++ Z) hb r h
  ow : ∀ p ∈ os, OwAt w h (Zo ++ (places os ++ Z)) p.1 p.2
  nd : (places os).Nodup
  dj : ∀ b ∈ places os, b ∉ Zo ∧ b ∉ Z ∧ hb.get? b = none
theorem FIm.keeps {w : World} {env : Env} {Zo Z : List Addr} {hb : Heap} {r : Rho} {os : Os} {h h' : Heap} (F : FIm w env Zo Z hb r os h) (k : ∀ b o, h.get? b = some o → h'.get? b = some o) : FIm w env Zo Z hb r os h' :=
  ⟨F.fi.keeps k, fun p hp => (F.ow p hp).mono (.of_keeps k) (fun b _ o e => k b o e) fun _ q => q, F.nd, F.dj⟩

structure SameM (Zo : List Addr) (os os' : Os) (s s' : Shared) : Prop where
  eq : s' = { s with heap := s'.heap, toks := s'.toks }
  k : ∀ b o, b ∉ Zo → b ∉ places os → s.heap.get? b = some o → s'.heap.get? b = some o
  fr : ∀ b ∈ places os', b ∈ places os ∨ s.heap.get? b = none
  lv : ∀ b o, s.heap.get? b = some o → ∃ o', s'.heap.get? b = some o'
theorem SameM.refl {Zo : List Addr} {os : Os} (s : Shared) : SameM Zo os os s s := ⟨rfl, fun _ _ _ _ e => e, fun b hb => .inl hb, fun b o e => ⟨o, e⟩⟩
theorem SameM.trans {Zo : List Addr} {o1 o2 o3 : Os} {s s' s'' : Shared} (x : SameM Zo o1 o2 s s') (y : SameM Zo o2 o3 s' s'') : SameM Zo o1 o3 s s'' where
  eq := by rw [y.eq, x.eq]
  k := fun b o h1 h2 e => y.k b o h1 (fun q => by rcases x.fr b q with q | q; exact h2 q; rw [q] at e; cases e) (x.k b o h1 h2 e)
  fr := fun b hb => by
    rcases y.fr b hb with q | q
    · exact x.fr b q
    · refine .inr ?_
      cases e : s.heap.get? b with
      | none => rfl
      | some o => obtain ⟨o', e'⟩ := x.lv b o e; rw [q] at e'; cases e'
  lv := fun b o e => let ⟨o', e'⟩ := x.lv b o e; y.lv b o' e'
theorem Kp.sameM {Zo : List Addr} {os : Os} {s s' : Shared} (x : Kp s s') : SameM Zo os os s s' := ⟨x.eq, fun b o _ _ e => x.k b o e, fun b hb => .inl hb, fun b o e => ⟨o, x.k b o e⟩⟩

theorem FIm.step {w : World} {env : Env} {Zo Z : List Addr} {hb : Heap} {r r' : Rho} {os : Os} {s s' : Shared} (F : FIm w env Zo Z hb r os s.heap) (F' : FIs w env Zo (places os ++ Z) hb r' s'.heap) (e : Same Zo s s') : FIm w env Zo Z hb r' os s'.heap ∧ SameM Zo os os s s' := by
  refine ⟨⟨F', fun p hp => (F.ow p hp).mono (fun b o hb' e' => e.k b o (fun q => hb' (List.mem_append_left _ q)) e') (fun b hb' o e' => e.k b o ?_ e') fun _ q => q, F.nd, F.dj⟩, e.eq, fun b o h1 _ e' => e.k b o h1 e', fun b hb' => .inl hb', fun b o e' => ?_⟩
  · exact (F.dj b (placesOf_sub hp b hb')).1
  · by_cases q : b ∈ Zo
    · exact (F'.e.z b (List.mem_append_left _ q)).2
    · exact ⟨o, e.k b o q e'⟩

noncomputable def YM (w : World) (n : Nat) (env : Env) (r : Rho) (os : Os) (t : Sem Value) (d : D) : Prop :=
  ∀ A s Zo Z hb, AOk n A → FIm w env Zo Z hb r os s.heap → wpAny (MM w) A t (fun v s' => Kp s s' ∧ Rd w s'.heap (Zo ++ (places os ++ Z)) d v) NoE s
noncomputable def YBM (w : World) (n : Nat) (env : Env) (r : Rho) (os : Os) (t : Sem Bool) (b : Bool) : Prop :=
  ∀ A s Zo Z hb, AOk n A → FIm w env Zo Z hb r os s.heap → wpAny (MM w) A t (fun v s' => Kp s s' ∧ v = b) NoE s
noncomputable def XM (w : World) (n : Nat) (env : Env) (r : Rho) (os : Os) (t : Sem Flow) (P : Fl → Rho → Os → Prop) : Prop :=
  ∀ A s Zo Z hb, AOk n A → FIm w env Zo Z hb r os s.heap → wpAny (MM w) A t (fun fl s' => ∃ f r' os', P f r' os' ∧ FlRd w s'.heap (Zo ++ (places os' ++ Z)) f fl ∧ FIm w env Zo Z hb r' os' s'.heap ∧ SameM Zo os os' s s') NoE s

section
variable {w : World} {n : Nat} {env : Env} {r : Rho} {os : Os} {P : Fl → Rho → Os → Prop} {rest : List Stmt}
theorem YM.of {t : Sem Value} {d : D} (h : Y w n env r t d) : YM w n env r os t d := fun A s Zo Z hb ao F => h A s _ ao F.fi.e
theorem YBM.of {t : Sem Bool} {b : Bool} (h : YB w n env r t b) : YBM w n env r os t b := fun A s Zo Z hb ao F => h A s _ ao F.fi.e
noncomputable def BehM (w : World) (n : Nat) (env : Env) (rest : List Stmt) (P : Fl → Rho → Os → Prop) : Fl → Rho → Os → Prop
  | .nxt, r, os => XM w n env r os (execs rest env) P
  | f, r, os => P f r os
theorem XM.seq {st : Stmt} (h : XM w n env r os (exec st env) (BehM w n env rest P)) : XM w n env r os (execs (st :: rest) env) P := fun A s Zo Z hb ao F => by
  refine wpAny_execs_cons (wpAny_mono (h A s Zo Z hb ao F) (fun fl s' hZ => ?_) fun _ _ e => e)
  obtain ⟨f, r', os', p, q, F', e⟩ := hZ
  cases f with
  | nxt =>
    cases q
    exact wpAny_mono (p A s' Zo Z hb ao F') (fun fl' s'' ⟨f, r'', os'', p', q', F'', e'⟩ => ⟨f, r'', os'', p', q', F'', e.trans e'⟩) fun _ _ e => e
  | brk => cases q; exact ⟨.brk, r', os', p, rfl, F', e⟩
  | cnt => cases q; exact ⟨.cnt, r', os', p, rfl, F', e⟩
  | ret d =>
    obtain ⟨v, rfl, rd⟩ := q
    exact ⟨.ret d, r', os', p, ⟨v, rfl, rd⟩, F', e⟩
theorem XM.nil (h : P .nxt r os) : XM w n env r os (execs [] env) P := fun A s Zo Z hb ao F => wpAny_execs_nil ⟨.nxt, r, os, h, rfl, F, .refl s⟩
theorem XM.ret {e : Expr} {pos : Pos} {d : D} (he : YM w n env r os (eval e env) d) (h : P (.ret d) r os) : XM w n env r os (execs (.Return (some e) pos :: rest) env) P :=
  XM.seq fun A s Zo Z hb ao F => wpAny_Return_some (wpAny_mono (he A s Zo Z hb ao F) (fun v s' ⟨k, rd⟩ => ⟨.ret d, r, os, h, ⟨v, rfl, rd⟩, F.keeps k.k, k.sameM⟩) fun _ _ e => e)
theorem XM.assign {x : Str} {p pos : Pos} {e : Expr} {d : D} (he : YM w n env r os (eval e env) d) (hx : KindOk env x) (hsw : swapsWith e (some (.Name x p)) pos.line env = pure false)
    (h : XM w n env (rset r x d) os (execs rest env) P) : XM w n env r os (execs (.Assign [.Name x p] e pos :: rest) env) P :=
  XM.seq fun A s Zo Z hb ao F => wpAny_Assign_Name (wpAny_mono (he A s Zo Z hb ao F) (fun v s' ⟨k, rd⟩ => by
    have F1 := F.keeps k.k
    exact store_name F1.fi rd hx fun s'' F' e _ => let ⟨a, b⟩ := F1.step F' e; ⟨.nxt, _, os, h, rfl, a, k.sameM.trans b⟩) fun _ _ e => e) hsw
theorem XM.ifs {test : Expr} {body orelse : List Stmt} {pos : Pos} {b : Bool} (ht : YBM w n env r os (isTrue test env (eval test env)) b) (h1 : b = true → XM w n env r os (execs body env) (BehM w n env rest P))
    (h2 : b = false → XM w n env r os (execs orelse env) (BehM w n env rest P)) : XM w n env r os (execs (.If test body orelse pos :: rest) env) P :=
  XM.seq fun A s Zo Z hb ao F => wpAny_If (wpAny_mono (ht A s Zo Z hb ao F) (fun v s' ⟨k, e⟩ => by
    subst e
    cases v with
    | true => exact wpAny_mono (h1 rfl A s' Zo Z hb ao (F.keeps k.k)) (fun _ _ ⟨f, r', os', p, q, F', e⟩ => ⟨f, r', os', p, q, F', k.sameM.trans e⟩) fun _ _ e => e
    | false => exact wpAny_mono (h2 rfl A s' Zo Z hb ao (F.keeps k.k)) (fun _ _ ⟨f, r', os', p, q, F', e⟩ => ⟨f, r', os', p, q, F', k.sameM.trans e⟩) fun _ _ e => e) fun _ _ e => e)

theorem FIm.upd {Zo Z ch : List Addr} {hb h h' : Heap} {os' : Os} {a : Addr} {o' : Ow} (F : FIm w env Zo Z hb r os h) (hp : places os' = places os) (hin : ∀ p ∈ os', p = (a, o') ∨ (p ∈ os ∧ ∀ b ∈ placesOf p, b ∉ ch)) (hch : ∀ b ∈ ch, b ∈ places os ∧ ∃ o, h'.get? b = some o)
    (k : ∀ b x, b ∉ ch → h.get? b = some x → h'.get? b = some x) (new : OwAt w h' (Zo ++ (places os ++ Z)) a o') : FIm w env Zo Z hb r os' h' where
  fi := by
    rw [hp]
    refine F.fi.change (Wl := places os) (Wk := places os) (fun b o hb' e => k b o (fun q => hb' (hch b q).1) e) F.dj fun b hb' => ⟨hb', ?_⟩
    by_cases q : b ∈ ch
    · exact (hch b q).2
    · obtain ⟨_, o, e⟩ := F.fi.e.z b (List.mem_append_right _ (List.mem_append_left _ hb'))
      exact ⟨o, k b o q e⟩
  ow := fun p hpp => by
    rw [hp]
    rcases hin p hpp with rfl | ⟨hm, hq⟩
    · exact new
    · exact (F.ow p hm).mono (fun b o hb' e => k b o (fun q => hb' (List.mem_append_right _ (List.mem_append_left _ (hch b q).1))) e) (fun b hb' o e => k b o (hq b hb') e) fun _ q => q
  nd := by rw [hp]; exact F.nd
  dj := by rw [hp]; exact F.dj
theorem FIm.updM {Zo Z ch : List Addr} {hb : Heap} {os' : Os} {s s' : Shared} (F : FIm w env Zo Z hb r os s.heap) (hp : places os' = places os) (hch : ∀ b ∈ ch, b ∈ places os ∧ ∃ o, s'.heap.get? b = some o)
    (k : ∀ b x, b ∉ ch → s.heap.get? b = some x → s'.heap.get? b = some x) (e : s' = { s with heap := s'.heap, toks := s'.toks }) : SameM Zo os os' s s' where
  eq := e
  k := fun b o _ h2 e => k b o (fun q => h2 (hch b q).1) e
  fr := fun b hb' => .inl (hp ▸ hb')
  lv := fun b o e => by
    by_cases q : b ∈ ch
    · exact (hch b q).2
    · exact ⟨o, k b o q e⟩
theorem FIm.add {Zo Z : List Addr} {hb h h' : Heap} {a : Addr} {o : Ow} (F : FIm w env Zo Z hb r os h) (k : ∀ b x, h.get? b = some x → h'.get? b = some x) (hn : ∀ b ∈ placesOf (a, o), h.get? b = none) (hnd : (placesOf (a, o)).Nodup)
    (new : OwAt w h' (Zo ++ (placesOf (a, o) ++ (places os ++ Z))) a o) : FIm w env Zo Z hb r ((a, o) :: os) h' where
  fi := by
    show FIs w env Zo ((placesOf (a, o) ++ places os) ++ Z) hb r h'
    rw [List.append_assoc]
    exact F.fi.widen k (fun b hb' => ⟨hn b hb', OwAt.live (p := (a, o)) new b hb'⟩) fun d v x => Rd.grow k hn d v x
  ow := fun p hp => by
    show OwAt w h' (Zo ++ ((placesOf (a, o) ++ places os) ++ Z)) p.1 p.2
    rw [List.append_assoc]
    rcases List.mem_cons.mp hp with rfl | hp
    · exact new
    · exact ((F.ow p hp).grow k hn).mono (.of_keeps fun _ _ e => e) (fun _ _ _ e => e) fun b hb' => by
        simp only [List.mem_append] at hb' ⊢
        rcases hb' with q | q | q | q
        · exact .inr (.inl q)
        · exact .inl q
        · exact .inr (.inr (.inl q))
        · exact .inr (.inr (.inr q))
  nd := by
    show (placesOf (a, o) ++ places os).Nodup
    refine List.nodup_append.mpr ⟨hnd, F.nd, fun x hx y hy e => ?_⟩
    subst e
    obtain ⟨_, o', e⟩ := F.fi.e.z x (List.mem_append_right _ (List.mem_append_left _ hy))
    rw [hn x hx] at e; cases e
  dj := fun b hb' => by
    rcases List.mem_append.mp (show b ∈ placesOf (a, o) ++ places os from hb') with q | q
    · have := hn b q
      refine ⟨fun z => ?_, fun z => ?_, ?_⟩
      · obtain ⟨_, o', e⟩ := F.fi.e.z b (List.mem_append_left _ z); rw [this] at e; cases e
      · obtain ⟨_, o', e⟩ := F.fi.e.z b (List.mem_append_right _ (List.mem_append_right _ z)); rw [this] at e; cases e
      · cases q : hb.get? b with
        | none => rfl
        | some o' => rw [F.fi.kp b o' q] at this; cases this
    · exact F.dj b q

noncomputable def EM (w : World) (n : Nat) (env : Env) (r : Rho) (os : Os) (t : Sem Value) (P : D → Os → Prop) : Prop :=
  ∀ A s Zo Z hb, AOk n A → FIm w env Zo Z hb r os s.heap → wpAny (MM w) A t (fun v s' => ∃ d os', P d os' ∧ Rd w s'.heap (Zo ++ (places os' ++ Z)) d v ∧ FIm w env Zo Z hb r os' s'.heap ∧ SameM [] os os' s s') NoE s
theorem EM.of {t : Sem Value} {d : D} {P : D → Os → Prop} (h : YM w n env r os t d) (hp : P d os) : EM w n env r os t P := fun A s Zo Z hb ao F =>
  wpAny_mono (h A s Zo Z hb ao F) (fun v s' ⟨k, rd⟩ => ⟨d, os, hp, rd, F.keeps k.k, k.sameM⟩) fun _ _ e => e
theorem SameM.wide {Zo : List Addr} {o1 o2 : Os} {s s' : Shared} (x : SameM [] o1 o2 s s') : SameM Zo o1 o2 s s' := ⟨x.eq, fun b o _ h2 e => x.k b o (by simp) h2 e, x.fr, x.lv⟩
theorem SameM.rd {Zo Z : List Addr} {o1 o2 : Os} {s s' : Shared} {d : D} {v : Value} (x : SameM [] o1 o2 s s') (rd : Rd w s.heap (Zo ++ (places o1 ++ Z)) d v) : Rd w s'.heap (Zo ++ (places o2 ++ Z)) d v := by
  have g := Rd.grow (Zo := (places o2).filter fun b => (s.heap.get? b).isNone) (fun b o e => e) (fun b hb => by simpa using (List.mem_filter.mp hb).2) d v rd
  refine g.mono (fun b o hb e => x.k b o (by simp) (fun q => hb ?_) e) fun b hb => ?_
  · simp only [List.mem_append]; exact .inr (.inr (.inl q))
  · simp only [List.mem_append] at hb ⊢
    rcases hb with q | q | q
    · exact .inr (.inl q)
    · rcases x.fr b q with q' | q'
      · exact .inr (.inr (.inl q'))
      · exact .inl (List.mem_filter.mpr ⟨q, by rw [q']; rfl⟩)
    · exact .inr (.inr (.inr q))

theorem XM.assignE {x : Str} {p pos : Pos} {e : Expr} {P0 : D → Os → Prop} (he : EM w n env r os (eval e env) P0) (hx : KindOk env x) (hsw : swapsWith e (some (.Name x p)) pos.line env = pure false)
    (h : ∀ d os', P0 d os' → XM w n env (rset r x d) os' (execs rest env) P) : XM w n env r os (execs (.Assign [.Name x p] e pos :: rest) env) P :=
  XM.seq fun A s Zo Z hb ao F => wpAny_Assign_Name (wpAny_mono (he A s Zo Z hb ao F) (fun v s' hZ => by
    obtain ⟨d, os', hp, rd, F1, k⟩ := hZ
    exact store_name F1.fi rd hx fun s'' F' e _ => let ⟨a, b⟩ := F1.step F' e; ⟨.nxt, _, os', h d os' hp, rfl, a, k.wide.trans b⟩) fun _ _ e => e) hsw
theorem XM.retE {e : Expr} {pos : Pos} {P0 : D → Os → Prop} (he : EM w n env r os (eval e env) P0) (h : ∀ d os', P0 d os' → P (.ret d) r os') : XM w n env r os (execs (.Return (some e) pos :: rest) env) P :=
  XM.seq fun A s Zo Z hb ao F => wpAny_Return_some (wpAny_mono (he A s Zo Z hb ao F) (fun v s' ⟨d, os', hp, rd, F1, k⟩ => ⟨.ret d, r, os', h d os' hp, ⟨v, rfl, rd⟩, F1, k.wide⟩) fun _ _ e => e)
theorem XM.weak {r' : Rho} {t : Sem Flow} (le : ∀ x d, r' x = some d → r x = some d) (h : XM w n env r' os t P) : XM w n env r os t P := fun A s Zo Z hb ao F => h A s Zo Z hb ao ⟨F.fi.weak le, F.ow, F.nd, F.dj⟩
end
end Uni
namespace Uni
noncomputable def fput (x : Str) (d : D) : List (Str × D) → List (Str × D)
  | [] => [(x, d)]
  | p :: ps => if (x == p.1) = true then (p.1, d) :: ps else p :: fput x d ps
section
variable {w : World} {n : Nat} {env : Env} {r : Rho} {os : Os} {P : Fl → Rho → Os → Prop} {rest : List Stmt} {h : Heap} {Z : List Addr}
theorem rde_put {x : Str} {d : D} {v : Value} {t : Tok} (rd : Rd w h Z d v) : ∀ {fs : List (Str × D)} {es : List DictEntry}, Rde w h Z fs es → Rde w h Z (fput x d fs) (putL x (PyData.keyHash w.params x) (.str x t) v es)
  | [], _, r => by cases r; exact ⟨_, _, t, rfl, rfl, rfl, rd, rfl⟩
  | p :: ps, _, r => by
    obtain ⟨e, r', t', rfl, h1, h2, h3, h4⟩ := r
    unfold fput putL
    by_cases q : (x == p.1) = true
    · have hk : e.key.isStr x = true := by rw [h1]; simpa [Value.isStr] using (beq_iff_eq.mp q).symm
      rw [if_pos q, if_pos hk]
      exact ⟨_, _, t', rfl, h1, h2, rd, h4⟩
    · have hk : ¬ e.key.isStr x = true := by
        rw [h1]
        have : ¬ p.1 = x := fun e => q (by simp [e])
        simpa [Value.isStr] using this
      rw [if_neg q, if_neg hk]
      exact ⟨_, _, t', rfl, h1, h2, h3, rde_put rd h4⟩
theorem rde_some {x : Str} {fs : List (Str × D)} {es : List DictEntry} (r : Rde w h Z fs es) : (getL x es).isSome = true := by
  cases q : fs.lookup x with
  | none => rw [(Rde.getNone r q).1]; rfl
  | some d => obtain ⟨v, e, _⟩ := Rde.get r q; rw [e]; rfl
theorem rde_len : ∀ {fs : List (Str × D)} {es : List DictEntry}, Rde w h Z fs es → es.length = fs.length
  | [], _, r => by cases r; rfl
  | p :: ps, _, r => by obtain ⟨e, r', t', rfl, h1, h2, h3, h4⟩ := r; simp [rde_len h4]
theorem fput_len (x : Str) (d : D) : ∀ fs : List (Str × D), (fput x d fs).length ≤ fs.length + 1
  | [] => by simp [fput]
  | p :: ps => by
    unfold fput
    split
    · simp
    · have := fput_len x d ps; simp; assumption
theorem places_mid {a : Addr} {o o' : Ow} (h : placesOf (a, o') = placesOf (a, o)) (pre post : Os) : places (pre ++ (a, o') :: post) = places (pre ++ (a, o) :: post) := by
  induction pre with
  | nil => show placesOf (a, o') ++ places post = placesOf (a, o) ++ places post; rw [h]
  | cons p pre ih => rw [List.cons_append, List.cons_append, places, places, ih]
theorem places_app (pre post : Os) : places (pre ++ post) = places pre ++ places post := by
  induction pre with
  | nil => rfl
  | cons p pre ih => rw [List.cons_append, places, places, ih, List.append_assoc]
theorem off_of {a : Addr} {o : Ow} {pre post : Os} (nd : (places (pre ++ (a, o) :: post)).Nodup) : ∀ p, p ∈ pre ∨ p ∈ post → ∀ b ∈ placesOf p, b ∉ placesOf (a, o) := by
  rw [places_app] at nd
  obtain ⟨n1, n2, n3⟩ := List.nodup_append.mp nd
  obtain ⟨n4, n5, n6⟩ := List.nodup_append.mp (show (placesOf (a, o) ++ places post).Nodup from n2)
  intro p hp b hb q
  rcases hp with hp | hp
  · exact n3 b (placesOf_sub hp b hb) b (List.mem_append_left _ q) rfl
  · exact n6 b q b (placesOf_sub hp b hb) rfl
theorem FIm.set {Zo Z ch : List Addr} {hb : Heap} {s s' : Shared} {a : Addr} {o o' : Ow} {pre post : Os} (F : FIm w env Zo Z hb r (pre ++ (a, o) :: post) s.heap) (hp : placesOf (a, o') = placesOf (a, o)) (hch : ∀ b ∈ ch, b ∈ placesOf (a, o) ∧ ∃ x, s'.heap.get? b = some x)
    (k : ∀ b x, b ∉ ch → s.heap.get? b = some x → s'.heap.get? b = some x) (e : s' = { s with heap := s'.heap, toks := s'.toks }) (new : OwAt w s'.heap (Zo ++ (places (pre ++ (a, o) :: post) ++ Z)) a o') :
    FIm w env Zo Z hb r (pre ++ (a, o') :: post) s'.heap ∧ ∀ Z1, SameM Z1 (pre ++ (a, o) :: post) (pre ++ (a, o') :: post) s s' := by
  have hm : ∀ b ∈ placesOf (a, o), b ∈ places (pre ++ (a, o) :: post) := placesOf_sub (by simp)
  have hch' : ∀ b ∈ ch, b ∈ places (pre ++ (a, o) :: post) ∧ ∃ x, s'.heap.get? b = some x := fun b hb => ⟨hm b (hch b hb).1, (hch b hb).2⟩
  refine ⟨F.upd (places_mid hp pre post) (fun p hpp => ?_) hch' k new, fun Z1 => ?_⟩
  · rcases List.mem_append.mp hpp with q | q
    · exact .inr ⟨List.mem_append_left _ q, fun b hb hc => off_of F.nd p (.inl q) b hb (hch b hc).1⟩
    · rcases List.mem_cons.mp q with rfl | q
      · exact .inl rfl
      · exact .inr ⟨List.mem_append_right _ (List.mem_cons_of_mem _ q), fun b hb hc => off_of F.nd p (.inr q) b hb (hch b hc).1⟩
  · exact SameM.wide (F.updM (places_mid hp pre post) hch' k e |> fun x => (⟨x.eq, fun b o _ h2 e => k b o (fun q => h2 (hch' b q).1) e, x.fr, x.lv⟩ : SameM [] _ _ s s'))
theorem XM.setA {ob : Expr} {attr : Str} {apos pos : Pos} {value : Expr} {a c dx : Addr} {fs : List (Str × D)} {d : D} {pre post : Os} (hos : os = pre ++ (a, .inst c dx fs) :: post) (hv : YM w n env r os (eval value env) d) (ho : Y w n env r (eval ob env) (.own a)) (S : SetOk w c attr)
    (hsw : swapsWith value (some (.Attribute ob attr apos)) pos.line env = pure false) (hl : fs.length ≤ 900)
    (h : XM w n env r (pre ++ (a, .inst c dx (fput attr d fs)) :: post) (execs rest env) P) : XM w n env r os (execs (.Assign [.Attribute ob attr apos] value pos :: rest) env) P := by
  subst hos
  refine XM.seq fun A s Zo Z hb ao F => ?_
  rw [plainObj_exec_Assign_Attribute _ _ _ _ _ hsw]
  refine wpAny_bind (wpAny_standAt (wpAny_bind (wpAny_mono (hv A s Zo Z hb ao F) (fun v s₁ ⟨k1, rd⟩ => ?_) fun _ _ e => e)))
  have F1 := F.keeps k1.k
  refine wpAny_bind ?_
  rw [assign_Attribute]
  refine wpAny_bind (wpAny_holding (wpAny_mono (ho A s₁ _ ao F1.fi.e) (fun ov s₂ ⟨k2, ro⟩ => ?_) fun _ _ e => e))
  cases ro
  have F2 := F1.keeps k2.k
  have rd2 := rd.mono (.of_keeps k2.k) fun _ q => q
  obtain ⟨vs, m, g1, g2, g3⟩ := F2.ow (a, .inst c dx fs) (by simp)
  refine wpAny_bind (wpAny_standAt (wpAny_bind (wpAny_holding (setOwn F2.fi.e.wd g1 g2 ?_ (rde_some g3) S fun h' e1 sb => ?_))))
  · rw [rde_len (rde_put (x := attr) (t := s₂.toks + 1) rd2 g3)]
    have := fput_len attr d fs; apply Ar.r9 <;> assumption
  · refine wpAny_release (wpAny_pure ?_)
    have ne : a ≠ dx := by
      rintro rfl
      rw [g1] at g2
      cases g2
    have kk : ∀ b x, b ∉ [dx] → s₂.heap.get? b = some x → h'.get? b = some x := fun b x hb e => sb.extBut b x (fun q => hb (by simp [q])) e
    have rdx : Rde w h' (Zo ++ (places (pre ++ (a, .inst c dx fs) :: post) ++ Z)) (fput attr d fs) (putL attr (PyData.keyHash w.params attr) (.str attr (s₂.toks + 1)) v vs.toList) := by
      have hdx : dx ∈ places (pre ++ (a, .inst c dx fs) :: post) := placesOf_sub (p := (a, .inst c dx fs)) (by simp) dx (by simp [placesOf])
      exact Rde.mono (fun b o hb' e => kk b o (fun q => hb' (by rw [List.mem_singleton.mp q]; simp [hdx])) e) (fun _ q => q) _ _ (rde_put (t := s₂.toks + 1) rd2 g3)
    obtain ⟨F3, sm⟩ := FIm.set (s := s₂) (s' := { s₂ with heap := h', toks := s₂.toks + 2 }) (ch := [dx]) (o' := .inst c dx (fput attr d fs)) F2 rfl (fun b hb' => by rw [List.mem_singleton.mp hb']; exact ⟨by simp [placesOf], _, e1⟩) kk rfl
      ⟨_, _, kk a _ (by simpa using ne) g1, e1, by simpa using rdx⟩
    exact ⟨.nxt, r, _, h, rfl, F3, (k1.trans k2).sameM.trans (sm Zo)⟩
end
end Uni
namespace Uni
noncomputable def AnsM (w : World) (s : Shared) (Z : List Addr) (hb : Heap) (os : Os) (Pd : D → Os → Prop) : Result → Shared → Prop := fun r s' => ∃ v d os', r = .ok (.ret v) ∧ Pd d os' ∧ Rd w s'.heap (places os' ++ Z) d v ∧ (∀ p ∈ os', OwAt w s'.heap (places os' ++ Z) p.1 p.2) ∧
  (places os').Nodup ∧ (∀ b ∈ places os', b ∉ Z ∧ hb.get? b = none) ∧ SameM [] os os' s s' ∧ (∀ b o, hb.get? b = some o → s'.heap.get? b = some o)
structure PreM (w : World) (s : Shared) (Z : List Addr) (hb : Heap) (os : Os) : Prop where
  W : Wd w s.heap
  hz : ZOk w (places os ++ Z) s.heap
  wb : Wd w hb
  kb : ∀ b o, hb.get? b = some o → s.heap.get? b = some o
  ow : ∀ p ∈ os, OwAt w s.heap (places os ++ Z) p.1 p.2
  nd : (places os).Nodup
  dj : ∀ b ∈ places os, b ∉ Z ∧ hb.get? b = none
noncomputable def CallM (w : World) (n : Nat) (f : Addr) (ds : List D) (os : Os) (Pd : D → Os → Prop) : Prop := ∀ A s Z hb vs, AOk n A → PreM w s Z hb os → Rds w s.heap (places os ++ Z) ds vs → codeAny (MM w) A (.call (.ref f) ⟨vs, []⟩) (AnsM w s Z hb os Pd) s

theorem body_ofM {w : World} {n : Nat} {f : Addr} {fd : FuncData} {body : List Stmt} {ps : List Str} {ds : List D} {os : Os} {Pd : D → Os → Prop} {A : Around} {s s₁ : Shared} {Z : List Addr} {hb : Heap} {vs : List Value}
    (gl : fd.globals = mainGlobals) (bi : fd.builtins = builtinsNs) (hnd : ps.Nodup) (hk : fd.scope.kind = .function) (hfree : ∀ p ∈ fd.scope.names, p.2 ≠ .free)
    (h : ∀ env, env.scope = fd.scope → env.code = fd.code → XM w n env (rargs ps ds) os (execs body env) (fun f _ os' => (∃ d, f = .ret d ∧ Pd d os') ∨ (f = .nxt ∧ Pd .none os')))
    (ao : AOk (n + 1) A) (pre : PreM w s Z hb os) (rd : Rds w s.heap (places os ++ Z) ds vs)
    (x : InCallC s (callEnvC fd s.heap.objs.size f).locals (bindL (callEnvC fd s.heap.objs.size f).kindOf (ps.zip vs) fun _ => none) (callEnvC fd s.heap.objs.size f).cells
        (bindC (callEnvC fd s.heap.objs.size f).kindOf (ps.zip vs) fun _ => none) s₁) :
    wpAny (MM w) (A.deeper (callEnvC fd s.heap.objs.size f)) (execs body (callEnvC fd s.heap.objs.size f)) (fun fl s' => AnsM w s Z hb os Pd (.ok (.ret (match fl with | .ret v => v | _ => .none))) s') NoE s₁ := by
  obtain ⟨W, hz, wb, kb, ow, nd, dj⟩ := pre
  obtain ⟨h₁, tk, e1, k1⟩ := x.done
  subst e1
  have W1 := W.keeps k1
  have below : ∀ b o, s.heap.get? b = some o → b < s.heap.objs.size := fun b o e => Heap.lt_size e
  have fresh : ∀ b, s.heap.objs.size ≤ b → s.heap.get? b = none := fun b hb => by
    cases q : s.heap.get? b with
    | none => rfl
    | some o => exact absurd (below b o q) (Nat.not_lt.mpr hb)
  have kfresh : ∀ b, s.heap.objs.size ≤ b → (KK w).lookup b = none := fun b hb => by
    cases q : (KK w).lookup b with
    | none => rfl
    | some o => have := W.k _ _ q; rw [fresh b hb] at this; cases this
  let L := s.heap.objs.size
  let env := callEnvC fd L f
  let Zo := L :: fd.scope.names.filterMap fun p => env.cells.lookup p.1
  have hzo : ∀ z ∈ Zo, L ≤ z ∧ ∃ o, h₁.get? z = some o := fun z hzm => by
    rcases List.mem_cons.mp hzm with rfl | hm
    · obtain ⟨o, _, _, e, _⟩ := x.toInCall.ns
      exact ⟨Nat.le_refl _, o, e⟩
    · obtain ⟨p, hp, hl⟩ := List.mem_filterMap.mp hm
      obtain ⟨o, e, _⟩ := x.cell _ _ hl
      exact ⟨Nat.le_of_lt (x.above _ _ (mem_of_lookup hl)), o, e⟩
  have inZo : ∀ y c, env.kindOf y = some .cell → env.cells.lookup y = some c → c ∈ Zo := fun y c hy hc =>
    List.mem_cons_of_mem _ (List.mem_filterMap.mpr ⟨(y, .cell), mem_of_lookup (l := fd.scope.names) hy, hc⟩)
  have nofr : ∀ y, env.kindOf y ≠ some .free := fun y hy => hfree _ (mem_of_lookup (l := fd.scope.names) hy) rfl
  have rdz : Rds w h₁ (Zo ++ (places os ++ Z)) ds vs := Rds.grow rd k1 fun z hz => fresh z (hzo z hz).1
  have F : FIs w env Zo (places os ++ Z) hb (rargs ps ds) h₁ := by
    refine ⟨⟨W1, ?_, ⟨_, x.toInCall.ns, fun y d' e hy => bindL_get _ rdz hnd e hy⟩, ?_, hk, gl, bi⟩, fun b o e => k1 b o (kb b o e), wb, List.mem_cons_self, fun z hz => ?_, ?_, ?_, nofr⟩
    · intro z hzm
      rcases List.mem_append.mp hzm with q | q
      · exact ⟨kfresh z (hzo z q).1, (hzo z q).2⟩
      · obtain ⟨a, o, e⟩ := hz z q
        exact ⟨a, o, k1 _ _ e⟩
    · intro y d' e hy
      have hy : env.kindOf y = some .cell := hy.resolve_right (nofr y)
      obtain ⟨c, hc⟩ := Option.isSome_iff_exists.mp (cell_some (n := L + 1) (names := fd.scope.names) hy)
      obtain ⟨v, e1, e2⟩ := bindC_get (m := fun _ => none) _ rdz hnd e hy
      have := x.cell y c hc
      rw [e1] at this
      exact ⟨c, v, hc, this, e2⟩
    · cases q : hb.get? z with
      | none => rfl
      | some o => have := kb z o q; rw [fresh z (hzo z hz).1] at this; cases this
    · intro y hy
      obtain ⟨c, hc⟩ := Option.isSome_iff_exists.mp (cell_some (n := L + 1) (names := fd.scope.names) hy)
      exact ⟨c, _, hc, x.cell y c hc, inZo y c hy hc, Nat.ne_of_gt (x.above _ _ (mem_of_lookup hc))⟩
    · intro y y' c _ _ h1 h2
      exact name_of_addr x.apart (mem_of_lookup h1) (mem_of_lookup h2)
  have FM : FIm w env Zo Z hb (rargs ps ds) os h₁ := by
    refine ⟨F, fun p hp => (ow p hp).grow k1 fun z hz => fresh z (hzo z hz).1, nd, fun b hb' => ⟨fun q => ?_, (dj b hb').1, (dj b hb').2⟩⟩
    obtain ⟨_, o, e⟩ := hz b (List.mem_append_left _ hb')
    rw [fresh b (hzo b q).1] at e; cases e
  refine wpAny_mono (h env rfl rfl (A.deeper env) _ Zo Z hb ao.deeper FM) (fun fl s' hZ => ?_) fun _ _ e => e
  obtain ⟨f', r', os', hp, q, F', e⟩ := hZ
  have less : ∀ b, b ∈ places os' ++ Z → b ∈ Zo ++ (places os' ++ Z) := fun b hb => List.mem_append_right _ hb
  have sm : SameM [] os os' s s' := by
    refine ⟨by rw [e.eq], fun b o _ h2 e' => e.k b o (fun q => ?_) h2 (k1 b o e'), fun b hb' => ?_, fun b o e' => e.lv b o (k1 b o e')⟩
    · rw [fresh b (hzo b q).1] at e'; cases e'
    · rcases e.fr b hb' with q | q
      · exact .inl q
      · refine .inr ?_
        cases e2 : s.heap.get? b with
        | none => rfl
        | some o => have := k1 b o e2; rw [show h₁.get? b = none from q] at this; cases this
  have rest : (∀ p ∈ os', OwAt w s'.heap (places os' ++ Z) p.1 p.2) ∧ (places os').Nodup ∧ (∀ b ∈ places os', b ∉ Z ∧ hb.get? b = none) ∧ SameM [] os os' s s' ∧ (∀ b o, hb.get? b = some o → s'.heap.get? b = some o) :=
    ⟨fun p hp => (F'.ow p hp).mono (.of_keeps fun _ _ e => e) (fun _ _ _ e => e) less, F'.nd, fun b hb' => ⟨(F'.dj b hb').2.1, (F'.dj b hb').2.2⟩, sm, F'.fi.kp⟩
  rcases hp with ⟨d, rfl, hd⟩ | ⟨rfl, hd⟩
  · obtain ⟨v, rfl, rv⟩ := q
    exact ⟨v, d, os', rfl, hd, rv.mono (.of_keeps fun _ _ e => e) less, rest⟩
  · cases q
    exact ⟨.none, .none, os', rfl, hd, rfl, rest⟩

theorem call_fnM {w : World} {n : Nat} {f : Addr} {ps : List Str} {name qual : Str} {params : Arguments} {body : List Stmt} {scope : Scope} {dV kV doc pm cdv ct oc : Value} {an od : Option Addr} {osl : Array (Option Value)} {ds : List D} {os : Os} {Pd : D → Os → Prop}
    (hK : (KK w).lookup f = some ⟨oc, od, .func (fnOf name qual params body scope dV kV doc pm an cdv ct), osl⟩) (hcode : codeIn (KK w) cdv qual = true) (hok : okDef scope ps = true)
    (hbind : ∀ vs : List Value, vs.length = ds.length → bindArgs (fnOf name qual params body scope dV kV doc pm an cdv ct) ⟨vs, []⟩ = pure (ps.zip vs))
    (h : ∀ env, env.scope = scope → XM w n env (rargs ps ds) os (execs body env) (fun f _ os' => (∃ d, f = .ret d ∧ Pd d os') ∨ (f = .nxt ∧ Pd .none os'))) : CallM w (n + 1) f ds os Pd := fun A s Z hb vs ao pre rd => by
  simp only [okDef, Bool.and_eq_true, Bool.not_eq_true', decide_eq_true_eq, List.all_eq_true, Bool.or_eq_true] at hok
  obtain ⟨⟨⟨⟨⟨h1, h2⟩, h3⟩, h4⟩, h5⟩, h6⟩ := hok
  refine codeAny_call_cells (fd := fnOf name qual params body scope dV kV doc pm an cdv ct) (body := body) (binds := ps.zip vs) (by have := ao.dp; apply Ar.b6 <;> assumption) (pre.W.k _ _ hK) rfl pre.W.lim (codeRec_of pre.W.k hcode) rfl (hbind vs rd.len) rfl ?_ (fun s₁ x => ?_) h1 h2 h3
  · intro p hp
    have := h5 p.1 (List.of_mem_zip hp).1
    exact this.imp id fun e => ⟨e, cell_some e⟩
  · exact wpAny_mono (body_ofM (fd := fnOf name qual params body scope dV kV doc pm an cdv ct) rfl rfl h6 h3 (fun p hp => by simpa using h4 p hp) (fun env hs _ => h env hs) ao pre rd x) (fun fl s' q => q) fun _ _ e => e.elim
theorem mkC {w : World} {n : Nat} {C f : Addr} {ds : List D} {fs : List (Str × D)} (hm : makesIn (KK w) C = true) (hi : findIn (KK w) (.ref C) "__init__" = some (some (.ref f))) (hf : typeIn (KK w) (.ref f) = some (.type "function"))
    (hinit : ∀ x dx, CallM w n f (.own x :: ds) [(x, .inst C dx [])] (fun d os' => d = .none ∧ os' = [(x, .inst C dx fs)])) : CallOK w (n + 1) C ds (.inst C fs) := fun A s Z vs ao W hz rd => by
  obtain ⟨hh, g, dr, t, oss⟩ := s
  refine make_core (makes_of W.k hm) (looks_findIn W.k hi) (fun self => bind_fn W.k self hf) (.inl rfl) ?_
  have k : ∀ b o, hh.get? b = some o → ((hh.push emptyDict).push (instObj C hh.objs.size)).get? b = some o := fun b o e => Heap.get?_push_of_some _ (Heap.get?_push_of_some _ e)
  have g1 : ((hh.push emptyDict).push (instObj C hh.objs.size)).get? (hh.objs.size + 1) = some (instObj C hh.objs.size) := by
    have := Heap.get?_push_size (hh.push emptyDict) (o := instObj C hh.objs.size) rfl
    rwa [Heap.size_push] at this
  have g2 : ((hh.push emptyDict).push (instObj C hh.objs.size)).get? hh.objs.size = some (dctO #[] 0) := Heap.get?_push_of_some _ (Heap.get?_push_size _ rfl)
  have fr : ∀ b ∈ [hh.objs.size + 1, hh.objs.size], hh.get? b = none := fun b hb => by
    cases q : hh.get? b with
    | none => rfl
    | some o =>
      have h1 : @LT.lt Nat _ b hh.objs.size := Heap.lt_size q
      simp only [List.mem_cons, List.not_mem_nil, or_false] at hb
      rcases hb with rfl | rfl <;> lia
  have nz : ∀ b ∈ [hh.objs.size + 1, hh.objs.size], b ∉ Z := fun b hb hz' => by
    obtain ⟨_, o, e⟩ := hz b hz'
    rw [fr b hb] at e; cases e
  have pre : PreM w ⟨(hh.push emptyDict).push (instObj C hh.objs.size), g, dr, t, oss⟩ Z hh [(hh.objs.size + 1, .inst C hh.objs.size [])] := by
    refine ⟨W.keeps k, fun z hzm => ?_, W, k, fun p hp => ?_, ?_, fun b hb => ⟨nz b hb, fr b hb⟩⟩
    · rcases List.mem_append.mp hzm with q | q
      · refine ⟨?_, ?_⟩
        · cases e : (KK w).lookup z with
          | none => rfl
          | some o => have := W.k _ _ e; rw [fr z q] at this; cases this
        · rcases List.mem_cons.mp q with rfl | q
          · exact ⟨_, g1⟩
          · rcases List.mem_cons.mp q with rfl | q
            · exact ⟨_, g2⟩
            · cases q
      · obtain ⟨a, o, e⟩ := hz z q
        exact ⟨a, o, k _ _ e⟩
    · rw [List.mem_singleton.mp hp]
      exact ⟨#[], 0, g1, g2, rfl⟩
    · show [hh.objs.size + 1, hh.objs.size].Nodup
      simp
  have ao' : AOk n (A.under (.builtin "type.__call__" ⟨.ref C :: vs, []⟩)) :=
    ⟨ao.hd, by have := ao.dp; show A.depth + 1 + n < _; apply Ar.d3 <;> assumption, by have := ao.un; show A.units + 1 + 100 * n < _; apply Ar.y9 <;> assumption⟩
  refine codeAny_mono (hinit (hh.objs.size + 1) hh.objs.size _ _ Z hh (.ref (hh.objs.size + 1) :: vs) ao' pre ⟨_, _, rfl, rfl, rd.grow k fr⟩) fun r s' hZ => ?_
  obtain ⟨v, d, os', e1, ⟨e2, e3⟩, rv, ow, nd, dj, sm, kb⟩ := hZ
  subst e1; subst e2; subst e3
  cases rv
  obtain ⟨xs, m, f1, f2, f3⟩ := ow (hh.objs.size + 1, .inst C hh.objs.size fs) (by simp)
  refine ⟨rfl, .ref (hh.objs.size + 1), rfl, ⟨by rw [sm.eq], kb⟩, _, _, xs, m, rfl, nz _ (by simp), nz _ (by simp), f1, f2, ?_⟩
  exact Rde.mono (.of_keeps fun _ _ e => e) (fun b hb => List.mem_append_right _ hb) _ _ f3
end Uni
namespace Uni
section
variable {w : World} {n : Nat}

set_option maxHeartbeats 4000000
theorem is_hangul (c : Int) : CallOK w (n + 1) 116 [.int c] (.bool (decide (0 ≤ c - 44032) && decide (c - 44032 < 11172))) := by
  refine call_fn (ps := ["code"]) rfl rfl rfl (fun vs hl => ?_) (fun env hs => ?_)
  · obtain ⟨a, rfl⟩ := L1 hl; rfl
  refine X.ret ?_ (.inl rfl)
  refine Y.cmp2 ?_ ?_ ?_ CmpOK.leI CmpOK.ltI rfl
  · exact Y.int
  · refine Y.bin ?_ ?_ BinOK.subI
    · exact Y.loc rfl (kOf hs rfl) rfl
    · refine Y.glob (v := .int 44032 321) rfl ?_ (kOf hs rfl) rfl
      exact fun _ _ _ _ => ⟨_, rfl⟩
  · refine Y.glob (v := .int 11172 330) rfl ?_ (kOf hs rfl) rfl
    exact fun _ _ _ _ => ⟨_, rfl⟩
end
end Uni
namespace Uni
section
variable {w : World} {n : Nat}
set_option maxHeartbeats 4000000
theorem hangul_kind_none (c : Int) (h1 : c < 4352) (h0 : 0 ≤ c) : CallOK w (n + 2) 123 [.int c] .none := by
  refine call_fn (ps := ["code"]) rfl rfl rfl (fun vs hl => ?_) (fun env hs => ?_)
  · obtain ⟨a, rfl⟩ := L1 hl; rfl
  refine X.ifs (S.ofB rfl (S.callN rfl (S.glob (kOf hs rfl) rfl rfl (Stat.fn rfl)) (S.consA rfl (S.loc (kOf hs rfl) rfl rfl) Ys.nil) (ArgsOk.cons rfl) (S.fnC rfl (is_hangul _)))) (fun h => ?_) (fun _ => X.nil ?_)
  · simp at h; lia
  refine X.ifs (YB.boolop (YB.or_cons (S.cmp2B rfl Y.int (S.loc (kOf hs rfl) rfl rfl) Y.int CmpOK.leI CmpOK.leI) (fun hq => (YB.or_cons (S.cmp2B rfl Y.int (S.loc (kOf hs rfl) rfl rfl) Y.int CmpOK.leI CmpOK.leI) (fun hq => YB.or_nil))))) (fun h => ?_) (fun _ => X.nil ?_)
  · simp at h; lia
  refine X.ifs (YB.boolop (YB.or_cons (S.cmp2B rfl Y.int (S.loc (kOf hs rfl) rfl rfl) Y.int CmpOK.leI CmpOK.leI) (fun hq => (YB.or_cons (S.cmp2B rfl Y.int (S.loc (kOf hs rfl) rfl rfl) Y.int CmpOK.leI CmpOK.leI) (fun hq => YB.or_nil))))) (fun h => ?_) (fun _ => X.nil ?_)
  · simp at h; lia
  refine X.ifs (YB.boolop (YB.or_cons (S.cmp2B rfl Y.int (S.loc (kOf hs rfl) rfl rfl) Y.int CmpOK.leI CmpOK.leI) (fun hq => (YB.or_cons (S.cmp2B rfl Y.int (S.loc (kOf hs rfl) rfl rfl) Y.int CmpOK.leI CmpOK.leI) (fun hq => YB.or_nil))))) (fun h => ?_) (fun _ => X.nil ?_)
  · simp at h; lia
  exact X.ret Y.none (.inl rfl)
end
end Uni
namespace Uni
noncomputable def cle (st : List Int) (c : Int) : Nat := (st.filter (· ≤ c)).length
theorem cle_le (st : List Int) (c : Int) : cle st c ≤ st.length := List.length_filter_le _ _
theorem cle_iff : ∀ {st : List Int} {c : Int}, st.Pairwise (· < ·) → ∀ i, i < st.length → (st.getD i default ≤ c ↔ i < cle st c)
  | [], _, _, i, h => by simp at h
  | a :: st, c, hp, i, h => by
    obtain ⟨h1, h2⟩ := List.pairwise_cons.mp hp
    by_cases ha : a ≤ c
    · have e : cle (a :: st) c = cle st c + 1 := by simp [cle, ha]
      cases i with
      | zero => simp [ha, e]
      | succ i =>
        have := cle_iff (c := c) h2 i (by simpa using h)
        rw [e]
        simpa using this
    · have e : cle (a :: st) c = 0 := by
        simp only [cle, List.length_eq_zero_iff, List.filter_eq_nil_iff, decide_eq_true_eq]
        intro x hx
        rcases List.mem_cons.mp hx with rfl | hx
        · exact ha
        · have := h1 x hx; lia
      rw [e]
      refine ⟨fun hh => absurd hh ?_, fun hh => absurd hh (Nat.not_lt_zero _)⟩
      cases i with
      | zero => simpa using ha
      | succ i =>
        have hi : i < st.length := by simpa using h
        have : st[i] ∈ st := List.getElem_mem hi
        have := h1 _ this
        simp [List.getD_eq_getElem?_getD, List.getElem?_eq_getElem hi]
        lia
section
variable {w : World} {n : Nat}
set_option maxHeartbeats 4000000
theorem place_ok (st : List Int) (c : Int) (hp : st.Pairwise (· < ·)) (hz : st.length ≤ 1000) : CallOK w (n + 1) 197 [.lst (st.map .int), .int c] (.int ((cle st c : Int) - 1)) := by
  refine call_fn (ps := ["firsts", "number"]) rfl rfl rfl (fun vs hl => ?_) (fun env hs => ?_)
  · obtain ⟨a, b, rfl⟩ := L2 hl; rfl
  have hle := cle_le st c
  have hsl := sizeLine_eq
  refine X.assign Y.int (.inl (kOf hs rfl)) rfl ?_
  refine X.assign (S.lenM (kOf hs rfl) rfl rfl (S.loc (kOf hs rfl) rfl rfl) ?_) (.inl (kOf hs rfl)) rfl ?_
  · lia
  refine X.whileI (fun i : Nat × Nat => [("firsts", .lst (st.map .int)), ("number", .int c), ("low", .int i.1), ("high", .int i.2)])
    (fun m i => i.1 ≤ cle st c ∧ cle st c ≤ i.2 ∧ i.2 ≤ st.length ∧ m = i.2 - i.1) st.length (0, st.length) ⟨Nat.zero_le _, hle, Nat.le_refl _, rfl⟩
    ⟨rfl, rfl, rfl, rfl, trivial⟩ ?_
  rintro m ⟨lo, hi⟩ ⟨h1, h2, h3, rfl⟩
  simp only at h1 h2 h3
  refine ⟨_, (S.cmpB rfl (S.loc (kOf hs rfl) rfl rfl) (S.loc (kOf hs rfl) rfl rfl) CmpOK.ltI), fun hb => ?_, fun hb => ?_⟩
  · simp at hb
    refine X.assign (Y.bin (Y.bin (S.loc (kOf hs rfl) rfl rfl) (S.loc (kOf hs rfl) rfl rfl) (by first | with_reducible exact BinOK.addI | ktr_rel)) Y.int (BinOK.divI (by decide) rfl)) (.inl (kOf hs rfl)) rfl ?_
    have em : ((lo : Int) + hi).fdiv 2 = (((lo + hi) / 2 : Nat) : Int) := by
      rw [Int.fdiv_eq_ediv_of_nonneg _ (by decide)]; lia
    rw [em]
    generalize hmid : (lo + hi) / 2 = mid
    have hlt : mid < st.length := by apply Ar.h3 <;> assumption
    have hiff := cle_iff (c := c) hp mid hlt
    refine X.ifs (S.cmpB rfl (S.item (S.loc (kOf hs rfl) rfl rfl) (S.loc (kOf hs rfl) rfl rfl) (ItemIs.map ?_) (fun _ _ => rfl)) (S.loc (kOf hs rfl) rfl rfl) CmpOK.leI) (fun hc => ?_) (fun hc => ?_)
    · lia
    · have := hiff.mp (of_decide_eq_true hc)
      refine X.assign (Y.bin (S.loc (kOf hs rfl) rfl rfl) Y.int (by first | with_reducible exact BinOK.addI | ktr_rel)) (.inl (kOf hs rfl)) rfl ?_
      refine X.nil (X.nil ⟨_, (mid + 1, hi), ?_, ⟨this, h2, h3, rfl⟩, rfl, rfl, rfl, rfl, trivial⟩)
      apply Ar.h1 <;> assumption
    · have := mt hiff.mpr (of_decide_eq_false hc)
      refine X.assign (S.loc (kOf hs rfl) rfl rfl) (.inl (kOf hs rfl)) rfl ?_
      refine X.nil (X.nil ⟨_, (lo, mid), ?_, ⟨h1, by lia, by exact Nat.le_of_lt ‹_›, rfl⟩, rfl, rfl, rfl, rfl, trivial⟩)
      apply Ar.h2 <;> assumption
  · simp at hb
    have e : (lo : Int) = (cle st c : Int) := by lia
    refine X.ret (Y.bin (S.loc (kOf hs rfl) rfl rfl) Y.int BinOK.subI) (.inl ?_)
    rw [e]

structure Rm where
  df : D
  st : List Int
  va : List D
noncomputable def rmD (m : Rm) : D := .inst 249 [("default", m.df), ("starts", .lst (m.st.map .int)), ("values", .lst m.va)]
structure RmOk (m : Rm) : Prop where
  srt : m.st.Pairwise (· < ·)
  len : m.va.length = m.st.length
  hd : m.st.head? = some 0
  sm : m.st.length ≤ 1000
noncomputable def Rm.get (m : Rm) (c : Int) : Option D := m.va[cle m.st c - 1]?
theorem RmOk.one {m : Rm} (h : RmOk m) {c : Int} (hc : 0 ≤ c) : 1 ≤ cle m.st c := by
  obtain ⟨df, st, va⟩ := m
  cases st with
  | nil => have := h.hd; simp at this
  | cons a st =>
    have e : a = 0 := by simpa using h.hd
    subst e
    simp [cle, hc]
theorem rmget_ok {m : Rm} (hm : RmOk m) {c : Int} (hc : 0 ≤ c) {d : D} (hd : m.get c = some d) : CallOK w (n + 2) 225 [rmD m, .int c] d := by
  refine call_fn (ps := ["self", "code"]) rfl rfl rfl (fun vs hl => ?_) (fun env hs => ?_)
  · obtain ⟨a, b, rfl⟩ := L2 hl; rfl
  have h1 := hm.one hc
  have h2 := cle_le m.st c
  have h3 := hm.sm
  have hit : 0 ≤ (cle m.st c : Int) - 1 ∧ (cle m.st c : Int) - 1 < 2 ^ 63 ∧ m.va[((cle m.st c : Int) - 1).toNat]? = some d := by
    refine ⟨by apply Ar.j7 <;> assumption, by apply Ar.l1 <;> assumption, ?_⟩
    rw [show ((cle m.st c : Int) - 1).toNat = cle m.st c - 1 from Ar.tnS _]
    exact hd
  exact X.ret (S.item (S.attr rfl (S.loc (kOf hs rfl) rfl rfl) rfl ⟨rfl, rfl⟩ rfl) (S.callN rfl (S.glob (kOf hs rfl) rfl rfl (Stat.fn rfl)) (S.consA rfl (S.attr rfl (S.loc (kOf hs rfl) rfl rfl) rfl ⟨rfl, rfl⟩ rfl) (S.consA rfl (S.loc (kOf hs rfl) rfl rfl) Ys.nil)) (ArgsOk.cons rfl) (S.fnC rfl (place_ok _ _ hm.srt hm.sm))) (ItemIs.lst hit) (fun _ _ => rfl)) (.inl rfl)

noncomputable def dataD (ms : List (Str × Rm)) : D := .inst 298 [("defaults", .any), ("maps", .dct (ms.map fun p => (p.1, rmD p.2))), ("properties", .any), ("words", .any)]
theorem lookup_map {ms : List (Str × Rm)} {x : Str} : (ms.map fun p => (p.1, rmD p.2)).lookup x = (ms.lookup x).map rmD := by
  induction ms with
  | nil => rfl
  | cons p ms ih =>
    rw [List.map_cons, List.lookup_cons, List.lookup_cons, ih]
    cases x == p.1 <;> rfl
theorem get_ok {ms : List (Str × Rm)} {x : Str} {m : Rm} (hx : ms.lookup x = some m) (hm : RmOk m) {c : Int} (hc : 0 ≤ c) {d : D} (hd : m.get c = some d) : CallOK w (n + 3) 288 [dataD ms, .str x, .int c] d := by
  refine call_fn (ps := ["self", "name", "code"]) rfl rfl rfl (fun vs hl => ?_) (fun env hs => ?_)
  · obtain ⟨a, b, c, rfl⟩ := L3 hl; rfl
  have hl : (ms.map fun p => (p.1, rmD p.2)).lookup x = some (rmD m) := by rw [lookup_map, hx]; rfl
  have hb : ((ms.map fun p => (p.1, rmD p.2)).lookup x).isSome = true := by rw [hl]; rfl
  refine X.ifs (S.cmpB rfl (S.loc (kOf hs rfl) rfl rfl) (S.attr rfl (S.loc (kOf hs rfl) rfl rfl) rfl ⟨rfl, rfl⟩ rfl) CmpOK.inD) (fun _ => ?_) (fun h => by rw [hb] at h; cases h)
  exact X.ret (S.meth rfl (Y.itemD (S.attr rfl (S.loc (kOf hs rfl) rfl rfl) rfl ⟨rfl, rfl⟩ rfl) (S.loc (kOf hs rfl) rfl rfl) hl (fun _ _ => rfl)) rfl ⟨rfl, rfl⟩ rfl rfl rfl ⟨_, rfl⟩ (S.consA rfl (S.loc (kOf hs rfl) rfl rfl) Ys.nil) (ArgsOk.cons rfl) (rmget_ok hm hc hd)) (.inl rfl)
end
end Uni
namespace Uni
structure Cl where
  g : Str
  i : Str
  e : Bool
  w : Str
  s : Str
structure Tb where
  ms : List (Str × Rm)
  cl : Int → Cl
  ok : Int → Prop
noncomputable def Hs (ms : List (Str × Rm)) (x : Str) (c : Int) (d : D) : Prop := ∃ m, ms.lookup x = some m ∧ RmOk m ∧ m.get c = some d
structure TbOk (T : Tb) : Prop where
  lo : ∀ {c}, T.ok c → 0 ≤ c
  hi : ∀ {c}, T.ok c → c < 4352
  g : ∀ {c}, T.ok c → Hs T.ms "gcb" c (.str (T.cl c).g)
  i : ∀ {c}, T.ok c → Hs T.ms "incb" c (.str (T.cl c).i)
  e : ∀ {c}, T.ok c → Hs T.ms "ep" c (.bool (T.cl c).e)
  w : ∀ {c}, T.ok c → Hs T.ms "wb" c (.str (T.cl c).w)
  s : ∀ {c}, T.ok c → Hs T.ms "sb" c (.str (T.cl c).s)
section
variable {w : World} {n : Nat} {T : Tb}
set_option maxHeartbeats 4000000
theorem get_has {x : Str} {c : Int} {d : D} (h : Hs T.ms x c d) (hc : 0 ≤ c) : CallOK w (n + 3) 288 [dataD T.ms, .str x, .int c] d := by
  obtain ⟨m, h1, h2, h3⟩ := h
  exact get_ok h1 h2 hc h3
theorem get_g (hT : TbOk T) {c : Int} (h : T.ok c) : CallOK w (n + 3) 288 [dataD T.ms, .str "gcb", .int c] (.str (T.cl c).g) := get_has (hT.g h) (hT.lo h)
theorem get_i (hT : TbOk T) {c : Int} (h : T.ok c) : CallOK w (n + 3) 288 [dataD T.ms, .str "incb", .int c] (.str (T.cl c).i) := get_has (hT.i h) (hT.lo h)
theorem get_e (hT : TbOk T) {c : Int} (h : T.ok c) : CallOK w (n + 3) 288 [dataD T.ms, .str "ep", .int c] (.bool (T.cl c).e) := get_has (hT.e h) (hT.lo h)
theorem get_w (hT : TbOk T) {c : Int} (h : T.ok c) : CallOK w (n + 3) 288 [dataD T.ms, .str "wb", .int c] (.str (T.cl c).w) := get_has (hT.w h) (hT.lo h)
theorem get_s (hT : TbOk T) {c : Int} (h : T.ok c) : CallOK w (n + 3) 288 [dataD T.ms, .str "sb", .int c] (.str (T.cl c).s) := get_has (hT.s h) (hT.lo h)
theorem ckind_ok (hT : TbOk T) {c : Int} (h : T.ok c) : CallOK w (n + 4) 133 [.int c, dataD T.ms] (.str (T.cl c).g) := by
  refine call_fn (ps := ["code", "data"]) rfl rfl rfl (fun vs hl => ?_) (fun env hs => ?_)
  · obtain ⟨a, b, rfl⟩ := L2 hl; rfl
  refine X.assign (S.meth rfl (S.loc (kOf hs rfl) rfl rfl) rfl ⟨rfl, rfl⟩ rfl rfl rfl ⟨_, rfl⟩ (S.consA rfl Y.str (S.consA rfl (S.loc (kOf hs rfl) rfl rfl) Ys.nil)) (ArgsOk.cons rfl) (get_g hT ?_)) (.inl (kOf hs rfl)) rfl ?_
  · exact h
  refine X.ifs (S.cmpB rfl (S.loc (kOf hs rfl) rfl rfl) Y.str (by first | with_reducible exact CmpOK.neS | with_reducible exact CmpOK.neI | with_reducible exact CmpOK.neB | with_reducible exact CmpOK.neLI0 | with_reducible exact CmpOK.neLI | with_reducible exact CmpOK.neO | ktr_rel)) (fun _ => ?_) (fun _ => X.nil ?_)
  · exact X.ret (S.loc (kOf hs rfl) rfl rfl) (.inl rfl)
  refine X.assign (S.callN rfl (S.glob (kOf hs rfl) rfl rfl (Stat.fn rfl)) (S.consA rfl (S.loc (kOf hs rfl) rfl rfl) Ys.nil) (ArgsOk.cons rfl) (S.fnC rfl (hangul_kind_none _ (hT.hi h) (hT.lo h)))) (.inl (kOf hs rfl)) rfl ?_
  refine X.ret (Y.ifexp (S.cmpB rfl (S.loc (kOf hs rfl) rfl rfl) Y.none (CmpOK.isN trivial)) (fun _ => (S.loc (kOf hs rfl) rfl rfl)) (fun h => by cases h)) (.inl rfl)

noncomputable def hjoins (l r : Str) : Bool :=
  if l == "L" then (["L", "V", "LV", "LVT"] : List Str).any (· == r) else if (["LV", "V"] : List Str).any (· == l) then (["V", "T"] : List Str).any (· == r)
  else (["LVT", "T"] : List Str).any (· == l) && r == "T"
theorem hjoins_ok {l r : Str} : CallOK w (n + 1) 140 [.str l, .str r] (.bool (hjoins l r)) := by
  refine call_fn (ps := ["left", "right"]) rfl rfl rfl (fun vs hl => ?_) (fun env hs => ?_)
  · obtain ⟨a, b, rfl⟩ := L2 hl; rfl
  refine X.ifs (S.cmpB rfl (S.loc (kOf hs rfl) rfl rfl) Y.str (by first | with_reducible exact CmpOK.eqS | with_reducible exact CmpOK.eqI | with_reducible exact CmpOK.eqB | with_reducible exact CmpOK.eqLI | with_reducible exact CmpOK.eqLP | ktr_rel)) (fun h1 => ?_) (fun h1 => X.nil ?_)
  · exact X.ret (S.cmpV rfl (S.loc (kOf hs rfl) rfl rfl) (Y.tuple (S.consA rfl Y.str (S.consA rfl Y.str (S.consA rfl Y.str (S.consA rfl Y.str Ys.nil)))) (by rw [sizeLine_eq]; exact Nat.le_of_ble_eq_true rfl)) (by first | exact CmpOK.inT rfl | with_reducible exact CmpOK.inLS | with_reducible exact CmpOK.inLI | ktr_rel)) (.inl (by simp only [hjoins, h1, if_true]))
  refine X.ifs (S.cmpB rfl (S.loc (kOf hs rfl) rfl rfl) (Y.tuple (S.consA rfl Y.str (S.consA rfl Y.str Ys.nil)) (by rw [sizeLine_eq]; exact Nat.le_of_ble_eq_true rfl)) (by first | exact CmpOK.inT rfl | with_reducible exact CmpOK.inLS | with_reducible exact CmpOK.inLI | ktr_rel)) (fun h2 => ?_) (fun h2 => X.nil ?_)
  · exact X.ret (S.cmpV rfl (S.loc (kOf hs rfl) rfl rfl) (Y.tuple (S.consA rfl Y.str (S.consA rfl Y.str Ys.nil)) (by rw [sizeLine_eq]; exact Nat.le_of_ble_eq_true rfl)) (by first | exact CmpOK.inT rfl | with_reducible exact CmpOK.inLS | with_reducible exact CmpOK.inLI | ktr_rel)) (.inl (by simp only [hjoins, h1, h2, if_true, if_false, Bool.false_eq_true]))
  exact X.ret (Y.boolop (Y.and_cons (S.cmpV rfl (S.loc (kOf hs rfl) rfl rfl) (Y.tuple (S.consA rfl Y.str (S.consA rfl Y.str Ys.nil)) (by rw [sizeLine_eq]; exact Nat.le_of_ble_eq_true rfl)) (by first | exact CmpOK.inT rfl | with_reducible exact CmpOK.inLS | with_reducible exact CmpOK.inLI | ktr_rel)) (fun hq => (Y.bo_last (S.cmpV rfl (S.loc (kOf hs rfl) rfl rfl) Y.str (by first | with_reducible exact CmpOK.eqS | with_reducible exact CmpOK.eqI | with_reducible exact CmpOK.eqB | with_reducible exact CmpOK.eqLI | with_reducible exact CmpOK.eqLP | ktr_rel)))))) (.inl (by simp only [hjoins, h1, h2, if_false, Bool.false_eq_true]))

noncomputable def optB : Option Bool → D
  | none => .none
  | some b => .bool b
noncomputable abbrev CEnds : List Str := ["CR", "LF", "Control"]
noncomputable abbrev CMarks : List Str := ["Extend", "ZWJ"]
noncomputable abbrev CJoints : List Str := ["Extend", "Linker"]
noncomputable def cpair (l r : Str) (leg : Bool) : Option Bool :=
  if l == "CR" && r == "LF" then some false
  else if CEnds.any (· == l) || CEnds.any (· == r) then some true
  else if hjoins l r || CMarks.any (· == r) then some false
  else if !leg && (r == "SpacingMark" || l == "Prepend") then some false
  else none
theorem cpair_ok {l r : Str} {leg : Bool} : CallOK w (n + 2) 147 [.str l, .str r, .bool leg] (optB (cpair l r leg)) := by
  refine call_fn (ps := ["left", "right", "is_legacy"]) rfl rfl rfl (fun vs hl => ?_) (fun env hs => ?_)
  · obtain ⟨a, b, c, rfl⟩ := L3 hl; rfl
  refine X.ifs (YB.boolop (YB.and_cons (S.cmpB rfl (S.loc (kOf hs rfl) rfl rfl) Y.str (by first | with_reducible exact CmpOK.eqS | with_reducible exact CmpOK.eqI | with_reducible exact CmpOK.eqB | with_reducible exact CmpOK.eqLI | with_reducible exact CmpOK.eqLP | ktr_rel)) (fun hq => (YB.and_cons (S.cmpB rfl (S.loc (kOf hs rfl) rfl rfl) Y.str (by first | with_reducible exact CmpOK.eqS | with_reducible exact CmpOK.eqI | with_reducible exact CmpOK.eqB | with_reducible exact CmpOK.eqLI | with_reducible exact CmpOK.eqLP | ktr_rel)) (fun hq => YB.and_nil))))) (fun h1 => ?_) (fun h1 => X.nil ?_)
  · exact X.ret Y.bool (.inl (by simp at h1; simp [cpair, optB, h1]))
  refine X.ifs (YB.boolop (YB.or_cons (S.cmpB rfl (S.loc (kOf hs rfl) rfl rfl) (S.glob (kOf hs rfl) rfl rfl (Stat.tup rfl rfl)) (by first | exact CmpOK.inT rfl | with_reducible exact CmpOK.inLS | with_reducible exact CmpOK.inLI | ktr_rel)) (fun hq => (YB.or_cons (S.cmpB rfl (S.loc (kOf hs rfl) rfl rfl) (S.glob (kOf hs rfl) rfl rfl (Stat.tup rfl rfl)) (by first | exact CmpOK.inT rfl | with_reducible exact CmpOK.inLS | with_reducible exact CmpOK.inLI | ktr_rel)) (fun hq => YB.or_nil))))) (fun h2 => ?_) (fun h2 => X.nil ?_)
  · exact X.ret Y.bool (.inl (by rw [Bool.or_false] at h2; rw [Bool.and_true] at h1; simp only [cpair, optB, h1, h2, if_true, if_false, Bool.false_eq_true]))
  refine X.ifs (YB.boolop (YB.or_cons (S.ofB rfl (S.callN rfl (S.glob (kOf hs rfl) rfl rfl (Stat.fn rfl)) (S.consA rfl (S.loc (kOf hs rfl) rfl rfl) (S.consA rfl (S.loc (kOf hs rfl) rfl rfl) Ys.nil)) (ArgsOk.cons rfl) (S.fnC rfl hjoins_ok))) (fun hq => (YB.or_cons (S.cmpB rfl (S.loc (kOf hs rfl) rfl rfl) (S.glob (kOf hs rfl) rfl rfl (Stat.tup rfl rfl)) (by first | exact CmpOK.inT rfl | with_reducible exact CmpOK.inLS | with_reducible exact CmpOK.inLI | ktr_rel)) (fun hq => YB.or_nil))))) (fun h3 => ?_) (fun h3 => X.nil ?_)
  · exact X.ret Y.bool (.inl (by rw [Bool.or_false] at h2 h3; rw [Bool.and_true] at h1; simp only [cpair, optB, h1, h2, h3, if_true, if_false, Bool.false_eq_true]))
  refine X.ifs (YB.boolop (YB.and_cons (YB.not (S.ofB rfl (S.loc (kOf hs rfl) rfl rfl))) (fun hq => (YB.and_cons (YB.boolop (YB.or_cons (S.cmpB rfl (S.loc (kOf hs rfl) rfl rfl) Y.str (by first | with_reducible exact CmpOK.eqS | with_reducible exact CmpOK.eqI | with_reducible exact CmpOK.eqB | with_reducible exact CmpOK.eqLI | with_reducible exact CmpOK.eqLP | ktr_rel)) (fun hq => (YB.or_cons (S.cmpB rfl (S.loc (kOf hs rfl) rfl rfl) Y.str (by first | with_reducible exact CmpOK.eqS | with_reducible exact CmpOK.eqI | with_reducible exact CmpOK.eqB | with_reducible exact CmpOK.eqLI | with_reducible exact CmpOK.eqLP | ktr_rel)) (fun hq => YB.or_nil))))) (fun hq => YB.and_nil))))) (fun h4 => ?_) (fun h4 => X.nil ?_)
  · exact X.ret Y.bool (.inl (by rw [Bool.or_false] at h2 h3 h4; rw [Bool.and_true] at h1 h4; simp only [cpair, optB, h1, h2, h3, h4, if_true, if_false, Bool.false_eq_true]))
  exact X.ret Y.none (.inl (by rw [Bool.or_false] at h2 h3 h4; rw [Bool.and_true] at h1 h4; simp only [cpair, optB, h1, h2, h3, h4, if_true, if_false, Bool.false_eq_true]))

theorem take_rev_succ {α : Type} [Inhabited α] (l : List α) (j : Nat) (h : j < l.length) : (l.take (j + 1)).reverse = l.getD j default :: (l.take j).reverse := by
  rw [List.take_succ_eq_append_getElem h, List.reverse_append, List.getD_eq_getElem?_getD, List.getElem?_eq_getElem h]; rfl

noncomputable def conjGo (f : Int → Str) : List Int → Bool → Bool
  | [], _ => false
  | c :: r, hl => if f c == "Consonant" then hl else if CJoints.any (· == f c) then conjGo f r (hl || f c == "Linker") else false
noncomputable def conj (T : Tb) (cs : List Int) (k : Nat) : Bool := (T.cl (cs.getD k default)).i == "Consonant" && conjGo (fun c => (T.cl c).i) (cs.take k).reverse false
structure TxOk (T : Tb) (cs : List Int) : Prop where
  ok : ∀ c ∈ cs, T.ok c
  sz : cs.length ≤ 1000
theorem TxOk.at {T : Tb} {cs : List Int} (h : TxOk T cs) {k : Int} (hk : 0 ≤ k ∧ k < cs.length) : T.ok (cs.getD k.toNat default) := by
  have : k.toNat < cs.length := by apply Ar.q3 <;> assumption
  rw [List.getD_eq_getElem?_getD, List.getElem?_eq_getElem this]
  exact h.ok _ (List.getElem_mem this)
theorem TxOk.sl {T : Tb} {cs : List Int} (h : TxOk T cs) : cs.length ≤ sizeLine := by rw [sizeLine_eq]; have := h.sz; apply Ar.sz <;> assumption
theorem conj_ok (hT : TbOk T) {cs : List Int} (hc : TxOk T cs) {k : Nat} (hk : k < cs.length) : CallOK w (n + 4) 154 [.lst (cs.map .int), .int k, dataD T.ms] (.bool (conj T cs k)) := by
  refine call_fn (ps := ["text", "at", "data"]) rfl rfl rfl (fun vs hl => ?_) (fun env hs => ?_)
  · obtain ⟨a, b, c, rfl⟩ := L3 hl; rfl
  have hsl := hc.sl
  refine X.ifs (S.cmpB rfl (S.meth rfl (S.loc (kOf hs rfl) rfl rfl) rfl ⟨rfl, rfl⟩ rfl rfl rfl ⟨_, rfl⟩ (S.consA rfl Y.str (S.consA rfl (S.item (S.loc (kOf hs rfl) rfl rfl) (S.loc (kOf hs rfl) rfl rfl) (ItemIs.map ?_) (fun _ _ => rfl)) Ys.nil)) (ArgsOk.cons rfl) (get_i hT ?_)) Y.str (by first | with_reducible exact CmpOK.neS | with_reducible exact CmpOK.neI | with_reducible exact CmpOK.neB | with_reducible exact CmpOK.neLI0 | with_reducible exact CmpOK.neLI | with_reducible exact CmpOK.neO | ktr_rel)) (fun h1 => ?_) (fun h1 => X.nil ?_)
  · apply Ar.t3 <;> assumption
  · exact hc.at (by apply Ar.ix <;> assumption)
  · refine X.ret Y.bool (.inl ?_)
    simp only [Int.toNat_natCast, bne, Bool.not_eq_true'] at h1
    simp only [conj, h1, Bool.false_and]
  simp only [Int.toNat_natCast, bne, Bool.not_eq_false'] at h1
  refine X.assign Y.bool (.inl (kOf hs rfl)) rfl ?_
  refine X.assign (Y.bin (S.loc (kOf hs rfl) rfl rfl) Y.int BinOK.subI) (.inl (kOf hs rfl)) rfl ?_
  have hd : conj T cs k = conjGo (fun c => (T.cl c).i) (cs.take k).reverse false := by rw [conj, h1, Bool.true_and]
  refine X.whileI (fun i : Nat × Bool => [("text", .lst (cs.map .int)), ("data", dataD T.ms), ("has_linker", .bool i.2), ("back", .int ((i.1 : Int) - 1))])
    (fun m i => i.1 ≤ k ∧ m = i.1 ∧ conjGo (fun c => (T.cl c).i) (cs.take i.1).reverse i.2 = conj T cs k) k (k, false) ⟨Nat.le_refl _, rfl, hd.symm⟩ ⟨rfl, rfl, rfl, rfl, trivial⟩ ?_
  rintro m ⟨j, hlk⟩ ⟨g1, hm, g2⟩
  simp only at g1 g2 hm
  refine ⟨_, (S.cmpB rfl (S.loc (kOf hs rfl) rfl rfl) Y.int CmpOK.geI), fun hb => ?_, fun hb => ?_⟩
  · simp at hb
    obtain ⟨j, rfl⟩ : ∃ i, j = i + 1 := ⟨j - 1, by apply Ar.k0 <;> assumption⟩
    have e0 : ((j + 1 : Nat) : Int) - 1 = j := by exact Ar.r5
    rw [e0]
    have hj : j < cs.length := by lia
    rw [take_rev_succ cs j hj] at g2
    simp only [conjGo] at g2
    refine X.assign (S.meth rfl (S.loc (kOf hs rfl) rfl rfl) rfl ⟨rfl, rfl⟩ rfl rfl rfl ⟨_, rfl⟩ (S.consA rfl Y.str (S.consA rfl (S.item (S.loc (kOf hs rfl) rfl rfl) (S.loc (kOf hs rfl) rfl rfl) (ItemIs.map ?_) (fun _ _ => rfl)) Ys.nil)) (ArgsOk.cons rfl) (get_i hT ?_)) (.inl (kOf hs rfl)) rfl ?_
    · apply Ar.t3 <;> assumption
    · exact hc.at (by apply Ar.ix <;> assumption)
    simp only [Int.toNat_natCast]
    refine X.ifs (S.cmpB rfl (S.loc (kOf hs rfl) rfl rfl) Y.str (by first | with_reducible exact CmpOK.eqS | with_reducible exact CmpOK.eqI | with_reducible exact CmpOK.eqB | with_reducible exact CmpOK.eqLI | with_reducible exact CmpOK.eqLP | ktr_rel)) (fun h2 => ?_) (fun h2 => X.nil ?_)
    · refine X.ret (S.loc (kOf hs rfl) rfl rfl) (.inl ?_)
      rw [h2] at g2
      rw [← g2]; rfl
    rw [h2] at g2
    refine X.ifs (S.cmpB rfl (S.loc (kOf hs rfl) rfl rfl) (S.glob (kOf hs rfl) rfl rfl (Stat.tup rfl rfl)) (by first | exact CmpOK.ninT rfl | with_reducible exact CmpOK.ninLI | ktr_rel)) (fun h3 => ?_) (fun h3 => X.nil ?_)
    · refine X.ret Y.bool (.inl ?_)
      simp only [Bool.not_eq_true'] at h3
      rw [h3] at g2
      rw [← g2]; rfl
    simp only [Bool.not_eq_false'] at h3
    rw [h3] at g2
    refine X.assign (Y.boolop (Y.or_cons (S.loc (kOf hs rfl) rfl rfl) (fun hq => (Y.bo_last (S.cmpV rfl (S.loc (kOf hs rfl) rfl rfl) Y.str (by first | with_reducible exact CmpOK.eqS | with_reducible exact CmpOK.eqI | with_reducible exact CmpOK.eqB | with_reducible exact CmpOK.eqLI | with_reducible exact CmpOK.eqLP | ktr_rel)))))) (.inl (kOf hs rfl)) rfl ?_
    refine X.subI (.inl (kOf hs rfl)) rfl Y.int (Y.ldLoc (kOf hs rfl) rfl) ?_
    exact X.nil ⟨j, (j, _), by apply Ar.v1 <;> assumption, ⟨by apply Ar.j9 <;> assumption, rfl, g2⟩, rfl, rfl, rfl, rfl, trivial⟩
  · simp at hb
    have : j = 0 := by lia
    subst this
    refine X.ret Y.bool (.inl ?_)
    rw [← g2]; rfl
end
end Uni
namespace Uni
section
variable {w : World} {n : Nat} {T : Tb}
set_option maxHeartbeats 4000000
noncomputable def gk (T : Tb) : Int → Str := fun c => (T.cl c).g
noncomputable def picGo (T : Tb) (l : List Int) : Bool := match l.dropWhile (fun c => gk T c == "Extend") with
  | [] => false
  | c :: _ => (T.cl c).e
noncomputable def pic (T : Tb) (cs : List Int) (k : Nat) : Bool := (T.cl (cs.getD k default)).e && gk T (cs.getD (k - 1) default) == "ZWJ" && picGo T (cs.take (k - 1)).reverse
theorem pic_ok (hT : TbOk T) {cs : List Int} (hc : TxOk T cs) {k : Nat} (h0 : 1 ≤ k) (hk : k < cs.length) : CallOK w (n + 5) 161 [.lst (cs.map .int), .int k, dataD T.ms] (.bool (pic T cs k)) := by
  refine call_fn (ps := ["text", "at", "data"]) rfl rfl rfl (fun vs hl => ?_) (fun env hs => ?_)
  · obtain ⟨a, b, c, rfl⟩ := L3 hl; rfl
  have hsl := hc.sl
  have e1 : ((k : Int) - 1).toNat = k - 1 := by apply Ar.tnS <;> assumption
  refine X.ifs (YB.boolop (YB.or_cons (YB.not (S.ofB rfl (S.meth rfl (S.loc (kOf hs rfl) rfl rfl) rfl ⟨rfl, rfl⟩ rfl rfl rfl ⟨_, rfl⟩ (S.consA rfl Y.str (S.consA rfl (S.item (S.loc (kOf hs rfl) rfl rfl) (S.loc (kOf hs rfl) rfl rfl) (ItemIs.map ?_) (fun _ _ => rfl)) Ys.nil)) (ArgsOk.cons rfl) (get_e hT ?_)))) (fun hq => (YB.or_cons (S.cmpB rfl (S.callN rfl (S.glob (kOf hs rfl) rfl rfl (Stat.fn rfl)) (S.consA rfl (S.item (S.loc (kOf hs rfl) rfl rfl) (Y.bin (S.loc (kOf hs rfl) rfl rfl) Y.int BinOK.subI) (ItemIs.map ?_) (fun _ _ => rfl)) (S.consA rfl (S.loc (kOf hs rfl) rfl rfl) Ys.nil)) (ArgsOk.cons rfl) (S.fnC rfl (ckind_ok hT ?_))) Y.str (by first | with_reducible exact CmpOK.neS | with_reducible exact CmpOK.neI | with_reducible exact CmpOK.neB | with_reducible exact CmpOK.neLI0 | with_reducible exact CmpOK.neLI | with_reducible exact CmpOK.neO | ktr_rel)) (fun hq => YB.or_nil))))) (fun h1 => ?_) (fun h1 => X.nil ?_)
  · apply Ar.t3 <;> assumption
  · exact hc.at (by apply Ar.ix <;> assumption)
  · apply Ar.t1 <;> assumption
  · exact hc.at (by apply Ar.t2 <;> assumption)
  · refine X.ret Y.bool (.inl ?_)
    rw [e1] at h1
    simp only [Int.toNat_natCast, Bool.or_false] at h1
    have : pic T cs k = false := by
      rw [Bool.or_eq_true] at h1
      rcases h1 with h1 | h1
      · rw [Bool.not_eq_true'] at h1; simp only [pic, h1, Bool.false_and]
      · have h1 : (gk T (cs.getD (k - 1) default) == "ZWJ") = false := by rwa [bne, Bool.not_eq_true'] at h1
        simp only [pic, h1, Bool.false_and, Bool.and_false]
    rw [this]
  rw [e1] at h1
  simp only [Int.toNat_natCast, Bool.or_false, Bool.or_eq_false_iff, Bool.not_eq_false', bne] at h1
  have hd : pic T cs k = picGo T (cs.take (k - 1)).reverse := by
    have h2 : (gk T (cs.getD (k - 1) default) == "ZWJ") = true := h1.2
    simp only [pic, h1.1, h2, Bool.true_and]
  refine X.assign (Y.bin (S.loc (kOf hs rfl) rfl rfl) Y.int BinOK.subI) (.inl (kOf hs rfl)) rfl ?_
  refine X.whileI (fun j : Nat => [("text", .lst (cs.map .int)), ("data", dataD T.ms), ("back", .int ((j : Int) - 1))])
    (fun m j => j ≤ k - 1 ∧ m = j ∧ picGo T (cs.take j).reverse = pic T cs k) (k - 1) (k - 1) ⟨Nat.le_refl _, rfl, hd.symm⟩ ⟨rfl, rfl, ?_, trivial⟩ ?_
  · show some (D.int _) = some (D.int _)
    rw [show (k : Int) - 2 = ((k - 1 : Nat) : Int) - 1 by apply Ar.p4 <;> assumption]
  rintro m j ⟨g1, hm, g2⟩
  refine ⟨_, (YB.boolop (YB.and_cons (S.cmpB rfl (S.loc (kOf hs rfl) rfl rfl) Y.int CmpOK.geI) (fun hq => (YB.and_cons (S.cmpB rfl (S.callN rfl (S.glob (kOf hs rfl) rfl rfl (Stat.fn rfl)) (S.consA rfl (S.item (S.loc (kOf hs rfl) rfl rfl) (S.loc (kOf hs rfl) rfl rfl) (ItemIs.map ?_) (fun _ _ => rfl)) (S.consA rfl (S.loc (kOf hs rfl) rfl rfl) Ys.nil)) (ArgsOk.cons rfl) (S.fnC rfl (ckind_ok hT ?_))) Y.str (by first | with_reducible exact CmpOK.eqS | with_reducible exact CmpOK.eqI | with_reducible exact CmpOK.eqB | with_reducible exact CmpOK.eqLI | with_reducible exact CmpOK.eqLP | ktr_rel)) (fun hq => YB.and_nil))))), fun hb => ?_, fun hb => ?_⟩
  · have := of_decide_eq_true hq; apply Ar.p2 <;> assumption
  · have := of_decide_eq_true hq; exact hc.at (by apply Ar.p1 <;> assumption)
  · rw [Bool.and_true, Bool.and_eq_true, decide_eq_true_eq] at hb
    obtain ⟨hb1, hb2⟩ := hb
    obtain ⟨i, rfl⟩ : ∃ i, j = i + 1 := ⟨j - 1, by apply Ar.k9 <;> assumption⟩
    have e0 : ((i + 1 : Nat) : Int) - 1 = i := by exact Ar.r5
    rw [e0, Int.toNat_natCast] at hb2
    have hb2 : (gk T (cs.getD i default) == "Extend") = true := hb2
    have hi : i < cs.length := by apply Ar.p3 <;> assumption
    rw [take_rev_succ cs i hi] at g2
    simp only [picGo, List.dropWhile_cons, hb2, if_true] at g2
    rw [e0]
    refine X.subI (.inl (kOf hs rfl)) rfl Y.int (Y.ldLoc (kOf hs rfl) rfl) ?_
    exact X.nil ⟨i, i, by apply Ar.v1 <;> assumption, ⟨by apply Ar.j9 <;> assumption, rfl, g2⟩, rfl, rfl, rfl, trivial⟩
  · rw [Bool.and_true, Bool.and_eq_false_iff, decide_eq_false_iff_not] at hb
    refine X.ret (Y.boolop (Y.and_cons (S.cmpV rfl (S.loc (kOf hs rfl) rfl rfl) Y.int CmpOK.geI) (fun hq => (Y.bo_last (S.meth rfl (S.loc (kOf hs rfl) rfl rfl) rfl ⟨rfl, rfl⟩ rfl rfl rfl ⟨_, rfl⟩ (S.consA rfl Y.str (S.consA rfl (S.item (S.loc (kOf hs rfl) rfl rfl) (S.loc (kOf hs rfl) rfl rfl) (ItemIs.map ?_) (fun _ _ => rfl)) Ys.nil)) (ArgsOk.cons rfl) (get_e hT ?_)))))) (.inl ?_)
    · have := of_decide_eq_true hq; apply Ar.p2 <;> assumption
    · have := of_decide_eq_true hq; exact hc.at (by apply Ar.p1 <;> assumption)
    · rw [← g2]
      rcases Nat.eq_zero_or_pos j with rfl | hj
      · rfl
      · obtain ⟨i, rfl⟩ : ∃ i, j = i + 1 := ⟨j - 1, by apply Ar.k7 <;> assumption⟩
        have e0 : ((i + 1 : Nat) : Int) - 1 = i := by exact Ar.r5
        rw [e0, Int.toNat_natCast] at hb ⊢
        have hb2 : (gk T (cs.getD i default) == "Extend") = false := hb.resolve_left (by lia)
        rw [take_rev_succ cs i (by apply Ar.p3 <;> assumption)]
        simp only [picGo, List.dropWhile_cons, hb2, Bool.false_eq_true, if_false]
        rw [decide_eq_true (by exact Int.natCast_nonneg _), Bool.true_and]

noncomputable def flagsN (T : Tb) (cs : List Int) (k : Nat) : Nat := ((cs.take k).reverse.takeWhile (fun c => gk T c == "Regional_Indicator")).length
theorem getD_take_rev {α : Type} [Inhabited α] (l : List α) (k j : Nat) (h : j < k) (hk : k ≤ l.length) : (l.take k).reverse.getD j default = l.getD (k - 1 - j) default := by
  rw [List.getD_eq_getElem?_getD, List.getD_eq_getElem?_getD, List.getElem?_reverse (by rw [List.length_take]; apply Ar.l2 <;> assumption), List.length_take, Nat.min_eq_left hk, List.getElem?_take_of_lt (by apply Ar.km <;> assumption)]
theorem takeWhile_step {α : Type} [Inhabited α] (p : α → Bool) : ∀ (l : List α) (m : Nat), m ≤ (l.takeWhile p).length → m < l.length → (p (l.getD m default) = true → m + 1 ≤ (l.takeWhile p).length) ∧ (p (l.getD m default) = false → m = (l.takeWhile p).length)
  | [], m, _, h => by simp at h
  | a :: l, m, h1, h2 => by
    cases hp : p a with
    | false =>
      rw [List.takeWhile_cons, hp] at h1 ⊢
      simp at h1
      subst h1
      simp [hp]
    | true =>
      rw [List.takeWhile_cons, hp] at h1 ⊢
      simp only [if_true, List.length_cons] at h1 ⊢
      cases m with
      | zero => simp [hp]
      | succ m =>
        have := takeWhile_step p l m (by lia) (by simpa using h2)
        simp only [List.getD_cons_succ]
        exact ⟨fun h => by have := this.1 h; lia, fun h => by have := this.2 h; lia⟩
theorem takeWhile_le {α : Type} (p : α → Bool) (l : List α) : (l.takeWhile p).length ≤ l.length := (List.takeWhile_sublist p).length_le
theorem flags_ok (hT : TbOk T) {cs : List Int} (hc : TxOk T cs) {k : Nat} (hk : k < cs.length) : CallOK w (n + 5) 168 [.lst (cs.map .int), .int k, dataD T.ms] (.int (flagsN T cs k)) := by
  refine call_fn (ps := ["text", "at", "data"]) rfl rfl rfl (fun vs hl => ?_) (fun env hs => ?_)
  · obtain ⟨a, b, c, rfl⟩ := L3 hl; rfl
  have hsl := hc.sl
  refine X.assign Y.int (.inl (kOf hs rfl)) rfl ?_
  have hlen : (cs.take k).reverse.length = k := by rw [List.length_reverse, List.length_take]; apply Ar.mn <;> assumption
  have hle := takeWhile_le (fun c => gk T c == "Regional_Indicator") (cs.take k).reverse
  rw [hlen] at hle
  refine X.whileI (fun j : Nat => [("text", .lst (cs.map .int)), ("at", .int k), ("data", dataD T.ms), ("many", .int j)])
    (fun m j => j ≤ flagsN T cs k ∧ m = k - j) k 0 ⟨Nat.zero_le _, rfl⟩ ⟨rfl, rfl, rfl, rfl, trivial⟩ ?_
  rintro m j ⟨g1, hm⟩
  have hj : j ≤ k := Nat.le_trans g1 hle
  refine ⟨_, (YB.boolop (YB.and_cons (S.cmpB rfl (S.loc (kOf hs rfl) rfl rfl) (S.loc (kOf hs rfl) rfl rfl) CmpOK.ltI) (fun hq => (YB.and_cons (S.cmpB rfl (S.callN rfl (S.glob (kOf hs rfl) rfl rfl (Stat.fn rfl)) (S.consA rfl (S.item (S.loc (kOf hs rfl) rfl rfl) (Y.bin (Y.bin (S.loc (kOf hs rfl) rfl rfl) Y.int BinOK.subI) (S.loc (kOf hs rfl) rfl rfl) BinOK.subI) (ItemIs.map ?_) (fun _ _ => rfl)) (S.consA rfl (S.loc (kOf hs rfl) rfl rfl) Ys.nil)) (ArgsOk.cons rfl) (S.fnC rfl (ckind_ok hT ?_))) Y.str (by first | with_reducible exact CmpOK.eqS | with_reducible exact CmpOK.eqI | with_reducible exact CmpOK.eqB | with_reducible exact CmpOK.eqLI | with_reducible exact CmpOK.eqLP | ktr_rel)) (fun hq => YB.and_nil))))), fun hb => ?_, fun hb => ?_⟩
  · have := of_decide_eq_true hq; apply Ar.q9 <;> assumption
  · have := of_decide_eq_true hq; exact hc.at (by apply Ar.q8 <;> assumption)
  · rw [Bool.and_true, Bool.and_eq_true, decide_eq_true_eq] at hb
    obtain ⟨hb1, hb2⟩ := hb
    have st := takeWhile_step (fun c => gk T c == "Regional_Indicator") (cs.take k).reverse j g1 (by rw [hlen]; apply Ar.ltd <;> assumption)
    rw [getD_take_rev cs k j (by apply Ar.ltd <;> assumption) (by exact Nat.le_of_lt ‹_›)] at st
    have e1 : ((k : Int) - 1 - j).toNat = k - 1 - j := by apply Ar.tSS <;> assumption
    rw [e1] at hb2
    have := st.1 hb2
    refine X.augI (.inl (kOf hs rfl)) rfl Y.int (Y.ldLoc (kOf hs rfl) rfl) ?_
    exact X.nil ⟨k - (j + 1), j + 1, by apply Ar.decI <;> assumption, ⟨this, rfl⟩, rfl, rfl, rfl, rfl, trivial⟩
  · refine X.ret (S.loc (kOf hs rfl) rfl rfl) (.inl ?_)
    have : j = flagsN T cs k := by
      rw [Bool.and_true, Bool.and_eq_false_iff, decide_eq_false_iff_not] at hb
      by_cases hjk : j < k
      · have st := takeWhile_step (fun c => gk T c == "Regional_Indicator") (cs.take k).reverse j g1 (by rw [hlen]; assumption)
        rw [getD_take_rev cs k j (by assumption) (by exact Nat.le_of_lt ‹_›)] at st
        have e1 : ((k : Int) - 1 - j).toNat = k - 1 - j := by apply Ar.tSS <;> assumption
        rw [e1] at hb
        exact st.2 (hb.resolve_left (by apply Ar.nn <;> assumption))
      · have : flagsN T cs k ≤ k := hle
        lia
    rw [this]
noncomputable def isFlag (T : Tb) (cs : List Int) (k : Nat) : Bool := gk T (cs.getD k default) == "Regional_Indicator" && flagsN T cs k % 2 == 1
theorem flag_ok (hT : TbOk T) {cs : List Int} (hc : TxOk T cs) {k : Nat} (hk : k < cs.length) : CallOK w (n + 6) 175 [.lst (cs.map .int), .int k, dataD T.ms] (.bool (isFlag T cs k)) := by
  refine call_fn (ps := ["text", "at", "data"]) rfl rfl rfl (fun vs hl => ?_) (fun env hs => ?_)
  · obtain ⟨a, b, c, rfl⟩ := L3 hl; rfl
  have hsl := hc.sl
  refine X.ifs (S.cmpB rfl (S.callN rfl (S.glob (kOf hs rfl) rfl rfl (Stat.fn rfl)) (S.consA rfl (S.item (S.loc (kOf hs rfl) rfl rfl) (S.loc (kOf hs rfl) rfl rfl) (ItemIs.map ?_) (fun _ _ => rfl)) (S.consA rfl (S.loc (kOf hs rfl) rfl rfl) Ys.nil)) (ArgsOk.cons rfl) (S.fnC rfl (ckind_ok hT ?_))) Y.str (by first | with_reducible exact CmpOK.neS | with_reducible exact CmpOK.neI | with_reducible exact CmpOK.neB | with_reducible exact CmpOK.neLI0 | with_reducible exact CmpOK.neLI | with_reducible exact CmpOK.neO | ktr_rel)) (fun h1 => ?_) (fun h1 => X.nil ?_)
  · apply Ar.t3 <;> assumption
  · exact hc.at (by apply Ar.ix <;> assumption)
  · refine X.ret Y.bool (.inl ?_)
    rw [Int.toNat_natCast, bne, Bool.not_eq_true'] at h1
    have h1 : (gk T (cs.getD k default) == "Regional_Indicator") = false := h1
    simp only [isFlag, h1, Bool.false_and]
  · refine X.ret (S.cmpV rfl (Y.bin (S.callN rfl (S.glob (kOf hs rfl) rfl rfl (Stat.fn rfl)) (S.consA rfl (S.loc (kOf hs rfl) rfl rfl) (S.consA rfl (S.loc (kOf hs rfl) rfl rfl) (S.consA rfl (S.loc (kOf hs rfl) rfl rfl) Ys.nil))) (ArgsOk.cons rfl) (S.fnC rfl (flags_ok hT hc hk))) Y.int (BinOK.modI (by decide))) Y.int (by first | with_reducible exact CmpOK.eqS | with_reducible exact CmpOK.eqI | with_reducible exact CmpOK.eqB | with_reducible exact CmpOK.eqLI | with_reducible exact CmpOK.eqLP | ktr_rel)) (.inl ?_)
    rw [Int.toNat_natCast, bne, Bool.not_eq_false'] at h1
    have h1 : (gk T (cs.getD k default) == "Regional_Indicator") = true := h1
    simp only [isFlag, h1, Bool.true_and]
    congr 2
    rw [Int.fmod_eq_emod_of_nonneg _ (by decide)]
    rw [Bool.eq_iff_iff, beq_iff_eq, beq_iff_eq]
    exact Ar.b3
end
end Uni
namespace Uni
section
variable {w : World} {n : Nat} {T : Tb}
set_option maxHeartbeats 4000000
theorem call_fnD {f : Addr} {ps : List Str} {name qual : Str} {params : Arguments} {body : List Stmt} {scope : Scope} {dV kV doc pm cdv ct oc : Value} {an od : Option Addr} {osl : Array (Option Value)} {ds de : List D} {ex : List Value} {d : D}
    (hK : (KK w).lookup f = some ⟨oc, od, .func (fnOf name qual params body scope dV kV doc pm an cdv ct), osl⟩) (hcode : codeIn (KK w) cdv qual = true) (hok : okDef scope ps = true)
    (hbind : ∀ (s : Shared) (vs : List Value), Wd w s.heap → vs.length = ds.length → BindsTo s (fnOf name qual params body scope dV kV doc pm an cdv ct) ⟨vs, []⟩ (ps.zip (vs ++ ex))) (hex : ∀ h Z, Rds w h Z de ex)
    (h : ∀ env, env.scope = scope → X w n env (rargs ps (ds ++ de)) (execs body env) (Ans d)) : CallOK w (n + 1) f ds d := fun A s Z vs ao W hz rd => by
  simp only [okDef, Bool.and_eq_true, Bool.not_eq_true', decide_eq_true_eq, List.all_eq_true, Bool.or_eq_true] at hok
  obtain ⟨⟨⟨⟨⟨h1, h2⟩, h3⟩, h4⟩, h5⟩, h6⟩ := hok
  have rd' : Rds w s.heap Z (ds ++ de) (vs ++ ex) := rd.append (hex _ _)
  refine codeAny_call_function (fd := fnOf name qual params body scope dV kV doc pm an cdv ct) (body := body) (by have := ao.dp; apply Ar.b6 <;> assumption) (W.k _ _ hK) rfl h1 h2 rfl (codeRec_of W.k hcode) (hbind s vs W rd.len _ _ _ _ ?_)
  refine wpAny_newFunctionEnv_cells h3 (fun p hp => ?_) fun env' he s' x => ?_
  · have := h5 p.1 (List.of_mem_zip hp).1
    exact this.imp id fun e => ⟨e, cell_some e⟩
  · subst he
    refine ⟨W.lim.keeps x.toInCall.keep, codeAny_func (wpAny_mono (body_of (fd := fnOf name qual params body scope dV kV doc pm an cdv ct) rfl rfl h6 h3 (fun p hp => by simpa using h4 p hp) h (A := A) ao W hz rd' x) (fun fl s' q => ⟨_, rfl, q⟩) fun _ _ e => e.elim)⟩

noncomputable def cbreak (T : Tb) (cs : List Int) (k : Nat) : Bool :=
  if k == 0 || k == cs.length then cs != []
  else (cpair (gk T (cs.getD (k - 1) default)) (gk T (cs.getD k default)) false).getD (if conj T cs k then false else !(pic T cs k || isFlag T cs k))
theorem cbreak_ok (hT : TbOk T) {cs : List Int} (hc : TxOk T cs) {k : Nat} (hk : k ≤ cs.length) : CallOK w (n + 7) 183 [.lst (cs.map .int), .int k, dataD T.ms] (.bool (cbreak T cs k)) := by
  refine call_fnD (ps := ["text", "at", "data", "is_legacy"]) (ex := [.bool false]) (de := [.bool false]) rfl rfl rfl (fun s vs W hl => ?_) (fun h Z => Rds.one rfl) (fun env hs => ?_)
  · obtain ⟨a, b, c, rfl⟩ := L3 hl; exact BindsTo.of_defaults rfl (W.k 176 _ rfl) rfl rfl rfl
  have hsl := hc.sl
  have e1 : ((k : Int) - 1).toNat = k - 1 := by apply Ar.tnS <;> assumption
  refine X.ifs (YB.boolop (YB.or_cons (S.cmpB rfl (S.loc (kOf hs rfl) rfl rfl) Y.int (by first | with_reducible exact CmpOK.eqS | with_reducible exact CmpOK.eqI | with_reducible exact CmpOK.eqB | with_reducible exact CmpOK.eqLI | with_reducible exact CmpOK.eqLP | ktr_rel)) (fun hq => (YB.or_cons (S.cmpB rfl (S.loc (kOf hs rfl) rfl rfl) (S.lenM (kOf hs rfl) rfl rfl (S.loc (kOf hs rfl) rfl rfl) ?_) (by first | with_reducible exact CmpOK.eqS | with_reducible exact CmpOK.eqI | with_reducible exact CmpOK.eqB | with_reducible exact CmpOK.eqLI | with_reducible exact CmpOK.eqLP | ktr_rel)) (fun hq => YB.or_nil))))) (fun h1 => ?_) (fun h1 => X.nil ?_)
  · assumption
  · refine X.ret (S.cmpV rfl (S.loc (kOf hs rfl) rfl rfl) (Y.list Ys.nil (by rw [sizeLine_eq]; exact Nat.le_of_ble_eq_true rfl)) (by first | with_reducible exact CmpOK.neS | with_reducible exact CmpOK.neI | with_reducible exact CmpOK.neB | with_reducible exact CmpOK.neLI0 | with_reducible exact CmpOK.neLI | with_reducible exact CmpOK.neO | ktr_rel)) (.inl ?_)
    have h1' : (k == 0 || k == cs.length) = true := by
      simp only [Bool.or_false, Bool.or_eq_true, beq_iff_eq] at h1 ⊢; lia
    simp only [cbreak, h1', if_true]
  have h1' : (k == 0 || k == cs.length) = false := by
    simp only [Bool.or_false, Bool.or_eq_false_iff, beq_eq_false_iff_ne] at h1 ⊢; lia
  have hpos : 0 < k := by simp at h1'; lia
  have hlt : k < cs.length := by simp at h1'; lia
  refine X.assign (S.callN rfl (S.glob (kOf hs rfl) rfl rfl (Stat.fn rfl)) (S.consA rfl (S.callN rfl (S.glob (kOf hs rfl) rfl rfl (Stat.fn rfl)) (S.consA rfl (S.item (S.loc (kOf hs rfl) rfl rfl) (Y.bin (S.loc (kOf hs rfl) rfl rfl) Y.int BinOK.subI) (ItemIs.map ?_) (fun _ _ => rfl)) (S.consA rfl (S.loc (kOf hs rfl) rfl rfl) Ys.nil)) (ArgsOk.cons rfl) (S.fnC rfl (ckind_ok hT ?_))) (S.consA rfl (S.callN rfl (S.glob (kOf hs rfl) rfl rfl (Stat.fn rfl)) (S.consA rfl (S.item (S.loc (kOf hs rfl) rfl rfl) (S.loc (kOf hs rfl) rfl rfl) (ItemIs.map ?_) (fun _ _ => rfl)) (S.consA rfl (S.loc (kOf hs rfl) rfl rfl) Ys.nil)) (ArgsOk.cons rfl) (S.fnC rfl (ckind_ok hT ?_))) (S.consA rfl (S.loc (kOf hs rfl) rfl rfl) Ys.nil))) (ArgsOk.cons rfl) (S.fnC rfl cpair_ok)) (.inl (kOf hs rfl)) rfl ?_
  · apply Ar.f9 <;> assumption
  · exact hc.at (by apply Ar.f8 <;> assumption)
  · apply Ar.t3 <;> assumption
  · exact hc.at (by apply Ar.ix <;> assumption)
  rw [e1, Int.toNat_natCast]
  have hcb : cbreak T cs k = (cpair (T.cl (cs.getD (k - 1) default)).g (T.cl (cs.getD k default)).g false).getD (if conj T cs k then false else !(pic T cs k || isFlag T cs k)) := by unfold cbreak; rw [h1']; rfl
  revert hcb
  cases cpair (T.cl (cs.getD (k - 1) default)).g (T.cl (cs.getD k default)).g false with
  | some b =>
    intro hcb
    refine X.ifs (S.cmpB rfl (S.loc (kOf hs rfl) rfl rfl) Y.none (CmpOK.isNotN trivial)) (fun h2 => ?_) (fun h2 => by cases h2)
    exact X.ret (S.loc (kOf hs rfl) rfl rfl) (.inl (by rw [hcb]; rfl))
  | none =>
    intro hcb
    refine X.ifs (S.cmpB rfl (S.loc (kOf hs rfl) rfl rfl) Y.none (CmpOK.isNotN trivial)) (fun h2 => by cases h2) (fun h2 => X.nil ?_)
    refine X.ifs (YB.boolop (YB.and_cons (YB.not (S.ofB rfl (S.loc (kOf hs rfl) rfl rfl))) (fun hq => (YB.and_cons (S.ofB rfl (S.callN rfl (S.glob (kOf hs rfl) rfl rfl (Stat.fn rfl)) (S.consA rfl (S.loc (kOf hs rfl) rfl rfl) (S.consA rfl (S.loc (kOf hs rfl) rfl rfl) (S.consA rfl (S.loc (kOf hs rfl) rfl rfl) Ys.nil))) (ArgsOk.cons rfl) (S.fnC rfl (conj_ok hT hc hlt)))) (fun hq => YB.and_nil))))) (fun h3 => ?_) (fun h3 => X.nil ?_)
    · exact X.ret Y.bool (.inl (by rw [hcb]; simp at h3; simp [h3]))
    · refine X.ret (Y.not (Y.boolop (Y.or_cons (S.callN rfl (S.glob (kOf hs rfl) rfl rfl (Stat.fn rfl)) (S.consA rfl (S.loc (kOf hs rfl) rfl rfl) (S.consA rfl (S.loc (kOf hs rfl) rfl rfl) (S.consA rfl (S.loc (kOf hs rfl) rfl rfl) Ys.nil))) (ArgsOk.cons rfl) (S.fnC rfl (pic_ok hT hc hpos hlt))) (fun hq => (Y.bo_last (S.callN rfl (S.glob (kOf hs rfl) rfl rfl (Stat.fn rfl)) (S.consA rfl (S.loc (kOf hs rfl) rfl rfl) (S.consA rfl (S.loc (kOf hs rfl) rfl rfl) (S.consA rfl (S.loc (kOf hs rfl) rfl rfl) Ys.nil))) (ArgsOk.cons rfl) (S.fnC rfl (flag_ok hT hc hlt)))))))) (.inl ?_)
      rw [hcb]; simp at h3; simp [h3]

noncomputable def csure (T : Tb) (l r : Int) : Bool :=
  (cpair (gk T l) (gk T r) false).getD (if gk T l == "Regional_Indicator" || CMarks.any (· == gk T l) || (T.cl l).e then false else (T.cl l).i == "None")
theorem csure_ok (hT : TbOk T) {l r : Int} (hl : T.ok l) (hr : T.ok r) : CallOK w (n + 7) 190 [.int l, .int r, dataD T.ms] (.bool (csure T l r)) := by
  refine call_fn (ps := ["left", "right", "data"]) rfl rfl rfl (fun vs hl => ?_) (fun env hs => ?_)
  · obtain ⟨a, b, c, rfl⟩ := L3 hl; rfl
  refine X.assign (S.callN rfl (S.glob (kOf hs rfl) rfl rfl (Stat.fn rfl)) (S.consA rfl (S.loc (kOf hs rfl) rfl rfl) (S.consA rfl (S.loc (kOf hs rfl) rfl rfl) Ys.nil)) (ArgsOk.cons rfl) (S.fnC rfl (ckind_ok hT ?_))) (.inl (kOf hs rfl)) rfl ?_
  · exact hl
  refine X.assign (S.callN rfl (S.glob (kOf hs rfl) rfl rfl (Stat.fn rfl)) (S.consA rfl (S.loc (kOf hs rfl) rfl rfl) (S.consA rfl (S.callN rfl (S.glob (kOf hs rfl) rfl rfl (Stat.fn rfl)) (S.consA rfl (S.loc (kOf hs rfl) rfl rfl) (S.consA rfl (S.loc (kOf hs rfl) rfl rfl) Ys.nil)) (ArgsOk.cons rfl) (S.fnC rfl (ckind_ok hT ?_))) (S.consA rfl Y.bool Ys.nil))) (ArgsOk.cons rfl) (S.fnC rfl cpair_ok)) (.inl (kOf hs rfl)) rfl ?_
  · exact hr
  have hcb : csure T l r = (cpair (T.cl l).g (T.cl r).g false).getD (if gk T l == "Regional_Indicator" || CMarks.any (· == gk T l) || (T.cl l).e then false else (T.cl l).i == "None") := rfl
  revert hcb
  cases cpair (T.cl l).g (T.cl r).g false with
  | some b =>
    intro hcb
    refine X.ifs (S.cmpB rfl (S.loc (kOf hs rfl) rfl rfl) Y.none (CmpOK.isNotN trivial)) (fun h2 => ?_) (fun h2 => by cases h2)
    exact X.ret (S.loc (kOf hs rfl) rfl rfl) (.inl (by rw [hcb]; rfl))
  | none =>
    intro hcb
    refine X.ifs (S.cmpB rfl (S.loc (kOf hs rfl) rfl rfl) Y.none (CmpOK.isNotN trivial)) (fun h2 => by cases h2) (fun h2 => X.nil ?_)
    refine X.ifs (YB.boolop (YB.or_cons (S.cmpB rfl (S.loc (kOf hs rfl) rfl rfl) Y.str (by first | with_reducible exact CmpOK.eqS | with_reducible exact CmpOK.eqI | with_reducible exact CmpOK.eqB | with_reducible exact CmpOK.eqLI | with_reducible exact CmpOK.eqLP | ktr_rel)) (fun hq => (YB.or_cons (S.cmpB rfl (S.loc (kOf hs rfl) rfl rfl) (S.glob (kOf hs rfl) rfl rfl (Stat.tup rfl rfl)) (by first | exact CmpOK.inT rfl | with_reducible exact CmpOK.inLS | with_reducible exact CmpOK.inLI | ktr_rel)) (fun hq => (YB.or_cons (S.ofB rfl (S.meth rfl (S.loc (kOf hs rfl) rfl rfl) rfl ⟨rfl, rfl⟩ rfl rfl rfl ⟨_, rfl⟩ (S.consA rfl Y.str (S.consA rfl (S.loc (kOf hs rfl) rfl rfl) Ys.nil)) (ArgsOk.cons rfl) (get_e hT ?_))) (fun hq => YB.or_nil))))))) (fun h3 => ?_) (fun h3 => X.nil ?_)
    · exact hl
    · refine X.ret Y.bool (.inl ?_)
      rw [hcb]; simp only [Bool.or_false] at h3; simp only [Bool.or_assoc]; simp only [gk, h3, if_true, Option.getD]
    · refine X.ret (S.cmpV rfl (S.meth rfl (S.loc (kOf hs rfl) rfl rfl) rfl ⟨rfl, rfl⟩ rfl rfl rfl ⟨_, rfl⟩ (S.consA rfl Y.str (S.consA rfl (S.loc (kOf hs rfl) rfl rfl) Ys.nil)) (ArgsOk.cons rfl) (get_i hT ?_)) Y.str (by first | with_reducible exact CmpOK.eqS | with_reducible exact CmpOK.eqI | with_reducible exact CmpOK.eqB | with_reducible exact CmpOK.eqLI | with_reducible exact CmpOK.eqLP | ktr_rel)) (.inl ?_)
      · exact hl
      rw [hcb]; simp only [Bool.or_false] at h3; simp only [Bool.or_assoc, gk]; rw [h3]; rfl
end
end Uni
namespace Uni
noncomputable abbrev WEnds : List Str := ["CR", "LF", "Newline"]
noncomputable abbrev WSkip : List Str := ["Extend", "Format", "ZWJ"]
noncomputable def isIn (l : List Str) (x : Str) : Bool := l.any (· == x)
noncomputable def at' (W : List Str) (i : Int) : Str := if 0 ≤ i then W.getD i.toNat "" else ""
noncomputable def keptK (hang ends : List Str) (W : List Str) (j : Nat) : Bool := !isIn hang (W.getD j "") || j == 0 || isIn ends (W.getD (j - 1) "")
noncomputable def prevK (k : Nat → Bool) : Nat → Int
  | 0 => -1
  | j + 1 => if k j then j else prevK k j
theorem prevK_skip (k : Nat → Bool) (m : Nat) : ∀ i, m ≤ i → (∀ j, m ≤ j → j < i → k j = false) → prevK k i = prevK k m
  | 0, h, _ => by rw [Nat.le_zero.mp h]
  | i + 1, h, hh => by
    rcases Nat.lt_or_ge m (i + 1) with q | q
    · have := hh i (by apply Ar.x4 <;> assumption) (by lia)
      rw [prevK, this]
      exact prevK_skip k m i (by apply Ar.x4 <;> assumption) fun j h1 h2 => hh j h1 (by apply Ar.ls <;> assumption)
    · rw [show m = i + 1 by lia]
theorem prevK_walk {hang ends W : List Str} (hd : ∀ x, isIn hang x = true → isIn ends x = false) {i m : Nat} (hm : m ≤ i) (hh : ∀ j, m ≤ j → j < i → isIn hang (W.getD j "") = true) (hs : m = 0 ∨ isIn hang (W.getD (m - 1) "") = false) :
    prevK (keptK hang ends W) i = if m < i ∧ (m = 0 ∨ isIn ends (W.getD (m - 1) "") = true) then (m : Int) else (m : Int) - 1 := by
  rcases Nat.lt_or_ge m i with q | q
  · have h1 : prevK (keptK hang ends W) i = prevK (keptK hang ends W) (m + 1) := prevK_skip _ _ _ (by apply Ar.pl <;> assumption) fun j h1 h2 => by
      have e1 := hh j (by apply Ar.j9 <;> assumption) h2
      have e2 := hd _ (hh (j - 1) (by apply Ar.v7 <;> assumption) (by apply Ar.pred <;> assumption))
      have e3 : (j == 0) = false := by simp; lia
      simp only [keptK, e1, e2, e3]; rfl
    rw [h1, prevK]
    have e1 := hh m (Nat.le_refl _) q
    by_cases c : m = 0 ∨ isIn ends (W.getD (m - 1) "") = true
    · have hk : keptK hang ends W m = true := by
        simp only [keptK, e1, Bool.not_true, Bool.false_or, Bool.or_eq_true, beq_iff_eq]; exact c
      rw [if_pos hk, if_pos ⟨q, c⟩]
    · have hk : keptK hang ends W m = false := by
        rw [← Bool.not_eq_true]
        simp only [keptK, e1, Bool.not_true, Bool.false_or, Bool.or_eq_true, beq_iff_eq]; exact c
      obtain ⟨p, rfl⟩ : ∃ p, m = p + 1 := ⟨m - 1, by apply Ar.spO <;> assumption⟩
      have e2 := hs.resolve_left (by lia)
      rw [Nat.add_sub_cancel] at e2
      rw [if_neg (by rw [hk]; decide), if_neg (fun x => c x.2), prevK, if_pos (by simp only [keptK, e2]; rfl)]
      lia
  · have : m = i := by lia
    subst this
    rw [if_neg (fun x => Nat.lt_irrefl _ x.1)]
    cases m with
    | zero => rfl
    | succ p =>
      have e2 := hs.resolve_left (by lia)
      rw [Nat.add_sub_cancel] at e2
      rw [prevK, if_pos (by simp only [keptK, e2]; rfl)]
      lia
theorem wdisj : ∀ x, isIn WSkip x = true → isIn WEnds x = false := fun x h => by
  simp only [isIn, List.any_cons, List.any_nil, Bool.or_false, Bool.or_eq_true, beq_iff_eq] at h
  rcases h with h | h | h <;> subst h <;> decide
theorem prevK_lt (k : Nat → Bool) : ∀ i, prevK k i < i ∧ -1 ≤ prevK k i
  | 0 => by simp [prevK]
  | i + 1 => by
    have := prevK_lt k i
    rw [prevK]
    split <;> lia
noncomputable abbrev wK (W : List Str) : Nat → Bool := keptK WSkip WEnds W
noncomputable def leftW (W : List Str) (i : Int) : Int := prevK (wK W) i.toNat
noncomputable def revK (k : Nat → Bool) (W : List Str) : Nat → List Str
  | 0 => []
  | j + 1 => if k j then W.getD j "" :: revK k W j else revK k W j
theorem revK_prev (k : Nat → Bool) (W : List Str) : ∀ i, revK k W i = if prevK k i < 0 then [] else at' W (prevK k i) :: revK k W (prevK k i).toNat
  | 0 => rfl
  | i + 1 => by
    rw [revK, prevK]
    split
    · rw [if_neg (by lia)]; simp [at']
    · exact revK_prev k W i
noncomputable def countL (x : Str) (l : List Str) : Nat := (l.takeWhile (· == x)).length
noncomputable def flagsW (W : List Str) (p : Int) : Nat := if p < 0 then 0 else countL "Regional_Indicator" (at' W p :: revK (wK W) W p.toNat)
theorem flagsW_step (W : List Str) (k : Nat) : flagsW W k = if (at' W k == "Regional_Indicator") = true then flagsW W (prevK (wK W) k) + 1 else 0 := by
  have h : flagsW W k = countL "Regional_Indicator" (at' W k :: revK (wK W) W k) := by
    unfold flagsW
    rw [if_neg (by lia), Int.toNat_natCast]
  have hr := revK_prev (wK W) W k
  rw [h, countL, List.takeWhile_cons]
  by_cases c : (at' W k == "Regional_Indicator") = true
  · rw [if_pos c, if_pos c, List.length_cons, hr]
    unfold flagsW
    split
    · rfl
    · rfl
  · rw [if_neg c, if_neg c]; rfl
noncomputable def rightW (W : List Str) (i : Nat) : Nat := i + ((W.drop i).takeWhile (isIn WSkip ·)).length
section
variable {w : World} {n : Nat} {T : Tb}
set_option maxHeartbeats 4000000
noncomputable def wws (T : Tb) (cs : List Int) : List Str := cs.map fun c => (T.cl c).w
theorem wws_at {cs : List Int} {i : Int} (h0 : 0 ≤ i) (h : i < cs.length) : (T.cl (cs.getD i.toNat default)).w = at' (wws T cs) i := by
  have : i.toNat < cs.length := by apply Ar.b1 <;> assumption
  simp only [at', if_pos h0, wws]
  rw [List.getD_eq_getElem?_getD, List.getD_eq_getElem?_getD, List.getElem?_map, List.getElem?_eq_getElem this]; rfl
theorem wws_out {cs : List Int} {i : Int} (h : ¬ (0 ≤ i ∧ i < cs.length)) : at' (wws T cs) i = "" := by
  unfold at'
  by_cases h0 : 0 ≤ i
  · rw [if_pos h0, List.getD_eq_getElem?_getD, List.getElem?_eq_none (by simp [wws]; apply Ar.o2 <;> assumption)]; rfl
  · rw [if_neg h0]
noncomputable abbrev viewD (T : Tb) (cs : List Int) : D := .inst 410 [("text", .lst (cs.map .int)), ("data", dataD T.ms)]
theorem wsort_ok (hT : TbOk T) {cs : List Int} (hc : TxOk T cs) {i : Int} : CallOK w (n + 4) 386 [viewD T cs, .int i] (.str (at' (wws T cs) i)) := by
  refine call_fn (ps := ["self", "index"]) rfl rfl rfl (fun vs hl => ?_) (fun env hs => ?_)
  · obtain ⟨a, b, rfl⟩ := L2 hl; rfl
  have hsl := hc.sl
  refine X.ret (Y.ifexpS (S.cmp2B rfl Y.int (S.loc (kOf hs rfl) rfl rfl) (S.lenM (kOf hs rfl) rfl rfl (S.attr rfl (S.loc (kOf hs rfl) rfl rfl) rfl ⟨rfl, rfl⟩ rfl) ?_) CmpOK.leI CmpOK.ltI) (fun hq => (S.meth rfl (S.attr rfl (S.loc (kOf hs rfl) rfl rfl) rfl ⟨rfl, rfl⟩ rfl) rfl ⟨rfl, rfl⟩ rfl rfl rfl ⟨_, rfl⟩ (S.consA rfl Y.str (S.consA rfl (S.item (S.attr rfl (S.loc (kOf hs rfl) rfl rfl) rfl ⟨rfl, rfl⟩ rfl) (S.loc (kOf hs rfl) rfl rfl) (ItemIs.map ?_) (fun _ _ => rfl)) Ys.nil)) (ArgsOk.cons rfl) (get_w hT ?_))) (fun hq => Y.str)) (.inl ?_)
  · exact hsl
  · simp at hq; apply Ar.t4 <;> assumption
  · simp at hq; exact hc.at (by assumption)
  · by_cases h : 0 ≤ i ∧ i < (cs.length : Int)
    · rw [if_pos (by simp [h.1, h.2]), wws_at h.1 h.2]
    · rw [if_neg (by simp; apply Ar.o1 <;> assumption), wws_out h]
theorem wleft_ok (hT : TbOk T) {cs : List Int} (hc : TxOk T cs) {i : Nat} (hi : i ≤ cs.length) : CallOK w (n + 5) 393 [viewD T cs, .int i] (.int (leftW (wws T cs) i)) := by
  refine call_fn (ps := ["self", "at"]) rfl rfl rfl (fun vs hl => ?_) (fun env hs => ?_)
  · obtain ⟨a, b, rfl⟩ := L2 hl; rfl
  have hsl := hc.sl
  refine X.assign (Y.bin (S.loc (kOf hs rfl) rfl rfl) Y.int BinOK.subI) (.inl (kOf hs rfl)) rfl ?_
  refine X.whileI (fun j : Nat => [("self", viewD T cs), ("at", .int i), ("left", .int ((j : Int) - 1))])
    (fun m j => j ≤ i ∧ m = j ∧ (∀ k, j ≤ k → k < i → isIn WSkip ((wws T cs).getD k "") = true)) i i ⟨Nat.le_refl _, rfl, fun k h1 h2 => by lia⟩ ⟨rfl, rfl, rfl, trivial⟩ ?_
  rintro m j ⟨g1, hm, g2⟩
  refine ⟨_, (YB.boolop (YB.and_cons (S.cmpB rfl (S.loc (kOf hs rfl) rfl rfl) Y.int CmpOK.geI) (fun hq => (YB.and_cons (S.cmpB rfl (S.meth rfl (S.loc (kOf hs rfl) rfl rfl) rfl ⟨rfl, rfl⟩ rfl rfl rfl ⟨_, rfl⟩ (S.consA rfl (S.loc (kOf hs rfl) rfl rfl) Ys.nil) (ArgsOk.cons rfl) (wsort_ok hT hc)) (S.glob (kOf hs rfl) rfl rfl (Stat.tup rfl rfl)) (by first | exact CmpOK.inT rfl | with_reducible exact CmpOK.inLS | with_reducible exact CmpOK.inLI | ktr_rel)) (fun hq => YB.and_nil))))), fun hb => ?_, fun hb => ?_⟩
  · rw [Bool.and_true, Bool.and_eq_true, decide_eq_true_eq] at hb
    obtain ⟨hb1, hb2⟩ := hb
    refine X.assign (Y.bin (S.loc (kOf hs rfl) rfl rfl) Y.int BinOK.subI) (.inl (kOf hs rfl)) rfl ?_
    refine X.nil ⟨j - 1, j - 1, by lia, ⟨by apply Ar.predE <;> assumption, rfl, ?_⟩, rfl, rfl, ?_, trivial⟩
    · intro k h1 h2
      rcases Nat.lt_or_ge k j with q | q
      · have : k = j - 1 := by lia
        subst this
        rw [at', if_pos hb1, show ((j : Int) - 1).toNat = j - 1 from Ar.tnS _] at hb2
        exact hb2
      · exact g2 k q h2
    · show some (D.int _) = some (D.int _)
      rw [show (((j - 1 : Nat) : Int) - 1) = (j : Int) - 1 - 1 by apply Ar.k8 <;> assumption]
  · rw [Bool.and_true, Bool.and_eq_false_iff, decide_eq_false_iff_not] at hb
    have hs' : j = 0 ∨ isIn WSkip ((wws T cs).getD (j - 1) "") = false := by
      by_cases h0 : j = 0
      · exact .inl h0
      · refine .inr ?_
        have hb2 := hb.resolve_left (by lia)
        rw [at', if_pos (by lia), show ((j : Int) - 1).toNat = j - 1 from Ar.tnS _] at hb2
        exact hb2
    have hres := prevK_walk (ends := WEnds) wdisj g1 g2 hs'
    have hL : leftW (wws T cs) i = _ := hres
    refine X.ifs (YB.boolop (YB.and_cons (S.cmpB rfl (S.loc (kOf hs rfl) rfl rfl) (Y.bin (S.loc (kOf hs rfl) rfl rfl) Y.int BinOK.subI) CmpOK.ltI) (fun hq => (YB.and_cons (YB.boolop (YB.or_cons (S.cmpB rfl (S.loc (kOf hs rfl) rfl rfl) Y.int CmpOK.ltI) (fun hq => (YB.or_cons (S.cmpB rfl (S.meth rfl (S.loc (kOf hs rfl) rfl rfl) rfl ⟨rfl, rfl⟩ rfl rfl rfl ⟨_, rfl⟩ (S.consA rfl (S.loc (kOf hs rfl) rfl rfl) Ys.nil) (ArgsOk.cons rfl) (wsort_ok hT hc)) (S.glob (kOf hs rfl) rfl rfl (Stat.tup rfl rfl)) (by first | exact CmpOK.inT rfl | with_reducible exact CmpOK.inLS | with_reducible exact CmpOK.inLI | ktr_rel)) (fun hq => YB.or_nil))))) (fun hq => YB.and_nil))))) (fun h2 => ?_) (fun h2 => X.nil ?_)
    · refine X.ret (Y.bin (S.loc (kOf hs rfl) rfl rfl) Y.int (by first | with_reducible exact BinOK.addI | ktr_rel)) (.inl ?_)
      have hc2 : j < i ∧ (j = 0 ∨ isIn WEnds ((wws T cs).getD (j - 1) "") = true) := by
        simp only [Bool.and_true, Bool.or_false, Bool.and_eq_true, Bool.or_eq_true, decide_eq_true_eq] at h2
        refine ⟨by lia, ?_⟩
        by_cases h0 : j = 0
        · exact .inl h0
        · have h := h2.2.resolve_left (by lia)
          refine .inr ?_
          rw [at', if_pos (by lia), show ((j : Int) - 1).toNat = j - 1 from Ar.tnS _] at h
          exact h
      rw [hL, if_pos hc2]; congr 2; lia
    · refine X.ret (S.loc (kOf hs rfl) rfl rfl) (.inl ?_)
      have hc2 : ¬ (j < i ∧ (j = 0 ∨ isIn WEnds ((wws T cs).getD (j - 1) "") = true)) := by
        rintro ⟨a, b⟩
        have : (decide ((j : Int) - 1 < (i : Int) - 1) && (decide ((j : Int) - 1 < 0) || WEnds.any (· == at' (wws T cs) ((j : Int) - 1)))) = true := by
          simp only [Bool.and_eq_true, Bool.or_eq_true, decide_eq_true_eq]
          refine ⟨by lia, ?_⟩
          by_cases h0 : j = 0
          · exact .inl (by lia)
          · refine .inr ?_
            rw [at', if_pos (by lia), show ((j : Int) - 1).toNat = j - 1 from Ar.tnS _]
            exact b.resolve_left h0
        simp only [Bool.and_true, Bool.or_false] at h2
        rw [this] at h2; cases h2
      rw [hL, if_neg hc2]
theorem wright_ok (hT : TbOk T) {cs : List Int} (hc : TxOk T cs) {i : Nat} (hi : i ≤ cs.length) : CallOK w (n + 5) 400 [viewD T cs, .int i] (.int (rightW (wws T cs) i)) := by
  refine call_fn (ps := ["self", "at"]) rfl rfl rfl (fun vs hl => ?_) (fun env hs => ?_)
  · obtain ⟨a, b, rfl⟩ := L2 hl; rfl
  have hsl := hc.sl
  have hlen : (wws T cs).length = cs.length := by simp [wws]
  refine X.whileI (fun j : Nat => [("self", viewD T cs), ("at", .int j)])
    (fun m j => i ≤ j ∧ j ≤ cs.length ∧ m = cs.length - j ∧ rightW (wws T cs) j = rightW (wws T cs) i) (cs.length - i) i ⟨Nat.le_refl _, hi, rfl, rfl⟩ ⟨rfl, rfl, trivial⟩ ?_
  rintro m j ⟨g1, g2, hm, g3⟩
  refine ⟨_, (YB.boolop (YB.and_cons (S.cmpB rfl (S.loc (kOf hs rfl) rfl rfl) (S.lenM (kOf hs rfl) rfl rfl (S.attr rfl (S.loc (kOf hs rfl) rfl rfl) rfl ⟨rfl, rfl⟩ rfl) ?_) CmpOK.ltI) (fun hq => (YB.and_cons (S.cmpB rfl (S.meth rfl (S.loc (kOf hs rfl) rfl rfl) rfl ⟨rfl, rfl⟩ rfl rfl rfl ⟨_, rfl⟩ (S.consA rfl (S.loc (kOf hs rfl) rfl rfl) Ys.nil) (ArgsOk.cons rfl) (wsort_ok hT hc)) (S.glob (kOf hs rfl) rfl rfl (Stat.tup rfl rfl)) (by first | exact CmpOK.inT rfl | with_reducible exact CmpOK.inLS | with_reducible exact CmpOK.inLI | ktr_rel)) (fun hq => YB.and_nil))))), fun hb => ?_, fun hb => ?_⟩
  · exact hsl
  · rw [Bool.and_true, Bool.and_eq_true, decide_eq_true_eq] at hb
    obtain ⟨hb1, hb2⟩ := hb
    refine X.assign (Y.bin (S.loc (kOf hs rfl) rfl rfl) Y.int (by first | with_reducible exact BinOK.addI | ktr_rel)) (.inl (kOf hs rfl)) rfl ?_
    refine X.nil ⟨cs.length - (j + 1), j + 1, by apply Ar.decI <;> assumption, ⟨by apply Ar.w7 <;> assumption, by apply Ar.q6 <;> assumption, rfl, ?_⟩, rfl, rfl, trivial⟩
    rw [← g3]
    have hj : j < (wws T cs).length := by lia
    have e : at' (wws T cs) (j : Int) = (wws T cs)[j] := by rw [at', if_pos (by exact Int.natCast_nonneg _), Int.toNat_natCast, List.getD_eq_getElem?_getD, List.getElem?_eq_getElem hj]; rfl
    rw [e] at hb2
    have hb2 : isIn WSkip (wws T cs)[j] = true := hb2
    unfold rightW
    rw [List.drop_eq_getElem_cons hj, List.takeWhile_cons, if_pos hb2, List.length_cons]
    exact Ar.k4
  · refine X.ret (S.loc (kOf hs rfl) rfl rfl) (.inl ?_)
    rw [← g3]
    rw [Bool.and_true, Bool.and_eq_false_iff, decide_eq_false_iff_not] at hb
    unfold rightW
    by_cases h0 : j < cs.length
    · have hj : j < (wws T cs).length := by apply Ar.le <;> assumption
      have hb2 := hb.resolve_left (by apply Ar.nn <;> assumption)
      have e : at' (wws T cs) (j : Int) = (wws T cs)[j] := by rw [at', if_pos (by exact Int.natCast_nonneg _), Int.toNat_natCast, List.getD_eq_getElem?_getD, List.getElem?_eq_getElem hj]; rfl
      rw [e] at hb2
      have hb2 : isIn WSkip (wws T cs)[j] = false := hb2
      rw [List.drop_eq_getElem_cons hj, List.takeWhile_cons, hb2]; rfl
    · rw [List.drop_eq_nil_of_le (by lia)]; rfl
theorem wflags_ok (hT : TbOk T) {cs : List Int} (hc : TxOk T cs) {p : Int} (hp : -1 ≤ p ∧ p < cs.length) : CallOK w (n + 6) 407 [viewD T cs, .int p] (.int (flagsW (wws T cs) p)) := by
  refine call_fn (ps := ["self", "index"]) rfl rfl rfl (fun vs hl => ?_) (fun env hs => ?_)
  · obtain ⟨a, b, rfl⟩ := L2 hl; rfl
  have hsl := hc.sl
  refine X.assign Y.int (.inl (kOf hs rfl)) rfl ?_
  refine X.whileI (fun j : Nat × Int => [("self", viewD T cs), ("index", .int j.2), ("many", .int j.1)])
    (fun m j => -1 ≤ j.2 ∧ j.2 < cs.length ∧ m = (j.2 + 1).toNat ∧ j.1 + flagsW (wws T cs) j.2 = flagsW (wws T cs) p) (p + 1).toNat (0, p) ⟨hp.1, hp.2, rfl, Nat.zero_add _⟩ ⟨rfl, rfl, rfl, trivial⟩ ?_
  rintro m ⟨c, q⟩ ⟨g1, g2, hm, g3⟩
  simp only at g1 g2 hm g3
  refine ⟨_, (YB.boolop (YB.and_cons (S.cmpB rfl (S.loc (kOf hs rfl) rfl rfl) Y.int CmpOK.geI) (fun hq => (YB.and_cons (S.cmpB rfl (S.meth rfl (S.loc (kOf hs rfl) rfl rfl) rfl ⟨rfl, rfl⟩ rfl rfl rfl ⟨_, rfl⟩ (S.consA rfl (S.loc (kOf hs rfl) rfl rfl) Ys.nil) (ArgsOk.cons rfl) (wsort_ok hT hc)) Y.str (by first | with_reducible exact CmpOK.eqS | with_reducible exact CmpOK.eqI | with_reducible exact CmpOK.eqB | with_reducible exact CmpOK.eqLI | with_reducible exact CmpOK.eqLP | ktr_rel)) (fun hq => YB.and_nil))))), fun hb => ?_, fun hb => ?_⟩
  · rw [Bool.and_true, Bool.and_eq_true, decide_eq_true_eq] at hb
    obtain ⟨hb1, hb2⟩ := hb
    obtain ⟨k, rfl⟩ : ∃ k : Nat, q = k := ⟨q.toNat, by apply Ar.w5 <;> assumption⟩
    refine X.assign (Y.bin (S.loc (kOf hs rfl) rfl rfl) Y.int (by first | with_reducible exact BinOK.addI | ktr_rel)) (.inl (kOf hs rfl)) rfl ?_
    refine X.assign (S.meth rfl (S.loc (kOf hs rfl) rfl rfl) rfl ⟨rfl, rfl⟩ rfl rfl rfl ⟨_, rfl⟩ (S.consA rfl (S.loc (kOf hs rfl) rfl rfl) Ys.nil) (ArgsOk.cons rfl) (wleft_ok hT hc ?_)) (.inl (kOf hs rfl)) rfl ?_
    · lia
    have hl := prevK_lt (wK (wws T cs)) k
    have hv : leftW (wws T cs) (k : Int) = prevK (wK (wws T cs)) k := rfl
    refine X.nil ⟨(leftW (wws T cs) k + 1).toNat, (c + 1, leftW (wws T cs) k), by apply Ar.f2 <;> assumption, ⟨by lia, by lia, rfl, ?_⟩, rfl, rfl, rfl, trivial⟩
    rw [← g3]
    have st := flagsW_step (wws T cs) k
    rw [if_pos hb2] at st
    show c + 1 + flagsW (wws T cs) (leftW (wws T cs) k) = _
    rw [st, hv]; exact Ar.k4
  · refine X.ret (S.loc (kOf hs rfl) rfl rfl) (.inl ?_)
    rw [← g3]
    rw [Bool.and_true, Bool.and_eq_false_iff, decide_eq_false_iff_not] at hb
    have : flagsW (wws T cs) q = 0 := by
      unfold flagsW
      by_cases h0 : q < 0
      · rw [if_pos h0]
      · rw [if_neg h0, countL, List.takeWhile_cons, if_neg (by rw [hb.resolve_left (by lia)]; decide)]; rfl
    rw [this]; rfl
end
end Uni
namespace Uni
theorem ip {α : Type} {c : Bool} {a b : α} (h : c = true) : a = (if c then a else b) := by rw [if_pos h]
theorem iq {α : Type} {c : Bool} {a b x : α} (h : c = false) (e : x = b) : x = (if c then a else b) := by rw [if_neg (by rw [h]; decide), e]
theorem rb {a b : Bool} (e : a = b) : Fl.ret (.bool a) = Fl.ret (.bool b) := by rw [e]
theorem YB.and_one {w : World} {n : Nat} {env : Env} {r : Rho} {x : Expr} {a : Bool} (h : YB w n env r (isTrue x env (eval x env)) a) : YB w n env r (allTrue .And [x] env) a := by
  have := YB.and_cons h fun _ => YB.and_nil
  rwa [Bool.and_true] at this
theorem YB.or_one {w : World} {n : Nat} {env : Env} {r : Rho} {x : Expr} {a : Bool} (h : YB w n env r (isTrue x env (eval x env)) a) : YB w n env r (allTrue .Or [x] env) a := by
  have := YB.or_cons h fun _ => YB.or_nil
  rwa [Bool.or_false] at this
theorem kAll {env : Env} {sc : Scope} {xs : List Str} (hs : env.scope = sc) (e : (xs.all fun x => decide (sc.names.lookup x = some .local) || decide (sc.names.lookup x = some .cell)) = true) : ∀ x ∈ xs, KindOk env x := fun x hx => by
  have := List.all_eq_true.mp e x hx
  simp only [Bool.or_eq_true, decide_eq_true_eq] at this
  exact this.imp (kOf hs) (kOf hs)
theorem swOf {env : Env} {sc : Scope} {ts : List Expr} {v : Expr} {o : Option (List Str)} (hs : env.scope = sc) (e : swappedStores ts v { env with scope := sc } = pure o) : swappedStores ts v env = pure o := by
  have : { env with scope := sc } = env := by rw [← hs]
  rwa [this] at e
noncomputable abbrev WLet : List Str := ["ALetter", "Hebrew_Letter"]
noncomputable abbrev WPlain : List Str := ["ALetter", "Hebrew_Letter", "Numeric"]
noncomputable abbrev WJoin : List Str := ["ALetter", "Hebrew_Letter", "Numeric", "Katakana"]
noncomputable abbrev WInL : List Str := ["MidLetter", "MidNumLet", "Single_Quote"]
noncomputable abbrev WInN : List Str := ["MidNum", "MidNumLet", "Single_Quote"]
noncomputable def bridges (one bt ot : Str) : Bool :=
  if isIn WLet one && (isIn WLet ot && isIn WInL bt) then true
  else if one == "Numeric" && ot == "Numeric" then isIn WInN bt
  else one == "Hebrew_Letter" && (ot == "Hebrew_Letter" && bt == "Double_Quote")
noncomputable def joinedB (here after far beyond : Str) (odd : Bool) : Bool :=
  if after == "ExtendNumLet" then here == after || isIn WJoin here
  else if here == "ExtendNumLet" then isIn WJoin after
  else if here == "Katakana" || after == "Katakana" then here == after
  else if here == "Regional_Indicator" then after == here && odd
  else if isIn WPlain here && isIn WPlain after then true
  else if here == "Hebrew_Letter" && after == "Single_Quote" then true
  else if isIn WPlain here then bridges here after beyond
  else if isIn WPlain after then bridges far here after
  else false
noncomputable def joinedW (W : List Str) (i : Nat) : Bool := joinedB (at' W (leftW W i)) (at' W i) (at' W (leftW W (leftW W i))) (at' W (rightW W (i + 1))) (flagsW W (leftW W i) % 2 == 1)
section
variable {w : World} {n : Nat} {T : Tb}
set_option maxHeartbeats 4000000
theorem bridges_ok {a b c : Str} : CallOK w (n + 1) 421 [.str a, .str b, .str c] (.bool (bridges a b c)) := by
  refine call_fn (ps := ["one", "between", "other"]) rfl rfl rfl (fun vs hl => ?_) (fun env hs => ?_)
  · obtain ⟨a, b, c, rfl⟩ := L3 hl; rfl
  refine X.ifs (YB.boolop (YB.and_cons (S.cmpB rfl (S.loc (kOf hs rfl) rfl rfl) (S.glob (kOf hs rfl) rfl rfl (Stat.tup rfl rfl)) (by first | exact CmpOK.inT rfl | with_reducible exact CmpOK.inLS | with_reducible exact CmpOK.inLI | ktr_rel)) (fun hq => (YB.and_cons (S.cmpB rfl (S.loc (kOf hs rfl) rfl rfl) (S.glob (kOf hs rfl) rfl rfl (Stat.tup rfl rfl)) (by first | exact CmpOK.inT rfl | with_reducible exact CmpOK.inLS | with_reducible exact CmpOK.inLI | ktr_rel)) (fun hq => (YB.and_one (S.cmpB rfl (S.loc (kOf hs rfl) rfl rfl) (S.glob (kOf hs rfl) rfl rfl (Stat.tup rfl rfl)) (by first | exact CmpOK.inT rfl | with_reducible exact CmpOK.inLS | with_reducible exact CmpOK.inLI | ktr_rel)))))))) (fun h1 => X.ret Y.bool (.inl (rb (ip h1)))) (fun h1 => X.nil ?_)
  refine X.ifs (YB.boolop (YB.and_cons (S.cmpB rfl (S.loc (kOf hs rfl) rfl rfl) Y.str (by first | with_reducible exact CmpOK.eqS | with_reducible exact CmpOK.eqI | with_reducible exact CmpOK.eqB | with_reducible exact CmpOK.eqLI | with_reducible exact CmpOK.eqLP | ktr_rel)) (fun hq => (YB.and_one (S.cmpB rfl (S.loc (kOf hs rfl) rfl rfl) Y.str (by first | with_reducible exact CmpOK.eqS | with_reducible exact CmpOK.eqI | with_reducible exact CmpOK.eqB | with_reducible exact CmpOK.eqLI | with_reducible exact CmpOK.eqLP | ktr_rel)))))) (fun h2 => X.ret (S.cmpV rfl (S.loc (kOf hs rfl) rfl rfl) (S.glob (kOf hs rfl) rfl rfl (Stat.tup rfl rfl)) (by first | exact CmpOK.inT rfl | with_reducible exact CmpOK.inLS | with_reducible exact CmpOK.inLI | ktr_rel)) (.inl (rb (iq h1 (ip h2))))) (fun h2 => X.nil ?_)
  exact X.ret (Y.boolop (Y.and_cons (S.cmpV rfl (S.loc (kOf hs rfl) rfl rfl) Y.str (by first | with_reducible exact CmpOK.eqS | with_reducible exact CmpOK.eqI | with_reducible exact CmpOK.eqB | with_reducible exact CmpOK.eqLI | with_reducible exact CmpOK.eqLP | ktr_rel)) (fun hq => (Y.and_cons (S.cmpV rfl (S.loc (kOf hs rfl) rfl rfl) Y.str (by first | with_reducible exact CmpOK.eqS | with_reducible exact CmpOK.eqI | with_reducible exact CmpOK.eqB | with_reducible exact CmpOK.eqLI | with_reducible exact CmpOK.eqLP | ktr_rel)) (fun hq => (Y.bo_last (S.cmpV rfl (S.loc (kOf hs rfl) rfl rfl) Y.str (by first | with_reducible exact CmpOK.eqS | with_reducible exact CmpOK.eqI | with_reducible exact CmpOK.eqB | with_reducible exact CmpOK.eqLI | with_reducible exact CmpOK.eqLP | ktr_rel)))))))) (.inl (rb (iq h1 (iq h2 rfl))))
theorem leftW_pos (W : List Str) {i : Nat} (h : 1 ≤ i) : 0 ≤ leftW W i := by
  unfold leftW
  rw [Int.toNat_natCast]
  induction i with
  | zero => lia
  | succ i ih =>
    rw [prevK]
    split
    · exact Int.natCast_nonneg _
    · rename_i hk
      cases i with
      | zero => exact absurd (by simp [wK, keptK]) hk
      | succ i => exact ih (by lia)
theorem leftW_lt (W : List Str) (i : Nat) : leftW W i < i ∧ -1 ≤ leftW W i := by
  unfold leftW
  rw [Int.toNat_natCast]
  exact prevK_lt _ _
theorem wleft_okI (hT : TbOk T) {cs : List Int} (hc : TxOk T cs) {i : Int} (hi : 0 ≤ i ∧ i ≤ cs.length) : CallOK w (n + 5) 393 [viewD T cs, .int i] (.int (leftW (wws T cs) i)) := by
  obtain ⟨k, rfl⟩ : ∃ k : Nat, i = k := ⟨i.toNat, by apply Ar.w4 <;> assumption⟩
  exact wleft_ok hT hc (by lia)
theorem wright_okI (hT : TbOk T) {cs : List Int} (hc : TxOk T cs) {i : Int} (hi : 0 ≤ i ∧ i ≤ cs.length) : CallOK w (n + 5) 400 [viewD T cs, .int i] (.int (rightW (wws T cs) i.toNat)) := by
  obtain ⟨k, rfl⟩ : ∃ k : Nat, i = k := ⟨i.toNat, by apply Ar.w4 <;> assumption⟩
  exact wright_ok hT hc (by lia)
theorem joined_ok (hT : TbOk T) {cs : List Int} (hc : TxOk T cs) {i : Nat} (h1 : 1 ≤ i) (hi : i < cs.length) : CallOK w (n + 7) 428 [viewD T cs, .int i] (.bool (joinedW (wws T cs) i)) := by
  refine call_fn (ps := ["view", "at"]) rfl rfl rfl (fun vs hl => ?_) (fun env hs => ?_)
  · obtain ⟨a, b, rfl⟩ := L2 hl; rfl
  have hsl := hc.sl
  have hp := leftW_pos (wws T cs) h1
  have hq' := leftW_lt (wws T cs) i
  refine X.tupSw (xs := ["left", "after"]) rfl (swOf hs rfl) (Y.tuple (S.consA rfl (S.meth rfl (S.loc (kOf hs rfl) rfl rfl) rfl ⟨rfl, rfl⟩ rfl rfl rfl ⟨_, rfl⟩ (S.consA rfl (S.loc (kOf hs rfl) rfl rfl) Ys.nil) (ArgsOk.cons rfl) (wleft_okI hT hc ?_)) (S.consA rfl (S.meth rfl (S.loc (kOf hs rfl) rfl rfl) rfl ⟨rfl, rfl⟩ rfl rfl rfl ⟨_, rfl⟩ (S.consA rfl (S.loc (kOf hs rfl) rfl rfl) Ys.nil) (ArgsOk.cons rfl) (wsort_ok hT hc)) Ys.nil)) (by rw [sizeLine_eq]; exact Nat.le_of_ble_eq_true rfl)) (kAll hs rfl) rfl ?_
  · lia
  refine X.assign (S.meth rfl (S.loc (kOf hs rfl) rfl rfl) rfl ⟨rfl, rfl⟩ rfl rfl rfl ⟨_, rfl⟩ (S.consA rfl (S.loc (kOf hs rfl) rfl rfl) Ys.nil) (ArgsOk.cons rfl) (wsort_ok hT hc)) (.inl (kOf hs rfl)) rfl ?_
  have e1 : ((i : Int) + 1).toNat = i + 1 := by apply Ar.tnA <;> assumption
  refine X.ifs (S.cmpB rfl (S.loc (kOf hs rfl) rfl rfl) Y.str (by first | with_reducible exact CmpOK.eqS | with_reducible exact CmpOK.eqI | with_reducible exact CmpOK.eqB | with_reducible exact CmpOK.eqLI | with_reducible exact CmpOK.eqLP | ktr_rel)) (fun c1 => X.ret (Y.boolop (Y.or_cons (S.cmpV rfl (S.loc (kOf hs rfl) rfl rfl) (S.loc (kOf hs rfl) rfl rfl) (by first | with_reducible exact CmpOK.eqS | with_reducible exact CmpOK.eqI | with_reducible exact CmpOK.eqB | with_reducible exact CmpOK.eqLI | with_reducible exact CmpOK.eqLP | ktr_rel)) (fun hq => (Y.bo_last (S.cmpV rfl (S.loc (kOf hs rfl) rfl rfl) (S.glob (kOf hs rfl) rfl rfl (Stat.tup rfl rfl)) (by first | exact CmpOK.inT rfl | with_reducible exact CmpOK.inLS | with_reducible exact CmpOK.inLI | ktr_rel)))))) (.inl (rb (ip c1)))) (fun c1 => X.nil ?_)
  refine X.ifs (S.cmpB rfl (S.loc (kOf hs rfl) rfl rfl) Y.str (by first | with_reducible exact CmpOK.eqS | with_reducible exact CmpOK.eqI | with_reducible exact CmpOK.eqB | with_reducible exact CmpOK.eqLI | with_reducible exact CmpOK.eqLP | ktr_rel)) (fun c2 => X.ret (S.cmpV rfl (S.loc (kOf hs rfl) rfl rfl) (S.glob (kOf hs rfl) rfl rfl (Stat.tup rfl rfl)) (by first | exact CmpOK.inT rfl | with_reducible exact CmpOK.inLS | with_reducible exact CmpOK.inLI | ktr_rel)) (.inl (rb (iq c1 (ip c2))))) (fun c2 => X.nil ?_)
  refine X.ifs (YB.boolop (YB.or_cons (S.cmpB rfl (S.loc (kOf hs rfl) rfl rfl) Y.str (by first | with_reducible exact CmpOK.eqS | with_reducible exact CmpOK.eqI | with_reducible exact CmpOK.eqB | with_reducible exact CmpOK.eqLI | with_reducible exact CmpOK.eqLP | ktr_rel)) (fun hq => (YB.or_one (S.cmpB rfl (S.loc (kOf hs rfl) rfl rfl) Y.str (by first | with_reducible exact CmpOK.eqS | with_reducible exact CmpOK.eqI | with_reducible exact CmpOK.eqB | with_reducible exact CmpOK.eqLI | with_reducible exact CmpOK.eqLP | ktr_rel)))))) (fun c3 => X.ret (S.cmpV rfl (S.loc (kOf hs rfl) rfl rfl) (S.loc (kOf hs rfl) rfl rfl) (by first | with_reducible exact CmpOK.eqS | with_reducible exact CmpOK.eqI | with_reducible exact CmpOK.eqB | with_reducible exact CmpOK.eqLI | with_reducible exact CmpOK.eqLP | ktr_rel)) (.inl (rb (iq c1 (iq c2 (ip c3)))))) (fun c3 => X.nil ?_)
  refine X.ifs (S.cmpB rfl (S.loc (kOf hs rfl) rfl rfl) Y.str (by first | with_reducible exact CmpOK.eqS | with_reducible exact CmpOK.eqI | with_reducible exact CmpOK.eqB | with_reducible exact CmpOK.eqLI | with_reducible exact CmpOK.eqLP | ktr_rel)) (fun c4 => X.ret (Y.boolop (Y.and_cons (S.cmpV rfl (S.loc (kOf hs rfl) rfl rfl) (S.loc (kOf hs rfl) rfl rfl) (by first | with_reducible exact CmpOK.eqS | with_reducible exact CmpOK.eqI | with_reducible exact CmpOK.eqB | with_reducible exact CmpOK.eqLI | with_reducible exact CmpOK.eqLP | ktr_rel)) (fun hq => (Y.bo_last (S.cmpV rfl (Y.bin (S.meth rfl (S.loc (kOf hs rfl) rfl rfl) rfl ⟨rfl, rfl⟩ rfl rfl rfl ⟨_, rfl⟩ (S.consA rfl (S.loc (kOf hs rfl) rfl rfl) Ys.nil) (ArgsOk.cons rfl) (wflags_ok hT hc ?_)) Y.int (BinOK.modI (by decide))) Y.int (by first | with_reducible exact CmpOK.eqS | with_reducible exact CmpOK.eqI | with_reducible exact CmpOK.eqB | with_reducible exact CmpOK.eqLI | with_reducible exact CmpOK.eqLP | ktr_rel)))))) (.inl (rb (iq c1 (iq c2 (iq c3 (.trans ?_ (ip c4)))))))) (fun c4 => X.nil ?_)
  · lia
  · congr 1
    rw [Int.fmod_eq_emod_of_nonneg _ (by decide), Bool.eq_iff_iff, beq_iff_eq, beq_iff_eq]
    exact Ar.b3
  refine X.ifs (YB.boolop (YB.and_cons (S.cmpB rfl (S.loc (kOf hs rfl) rfl rfl) (S.glob (kOf hs rfl) rfl rfl (Stat.tup rfl rfl)) (by first | exact CmpOK.inT rfl | with_reducible exact CmpOK.inLS | with_reducible exact CmpOK.inLI | ktr_rel)) (fun hq => (YB.and_one (S.cmpB rfl (S.loc (kOf hs rfl) rfl rfl) (S.glob (kOf hs rfl) rfl rfl (Stat.tup rfl rfl)) (by first | exact CmpOK.inT rfl | with_reducible exact CmpOK.inLS | with_reducible exact CmpOK.inLI | ktr_rel)))))) (fun c5 => X.ret Y.bool (.inl (rb (iq c1 (iq c2 (iq c3 (iq c4 (ip c5)))))))) (fun c5 => X.nil ?_)
  refine X.ifs (YB.boolop (YB.and_cons (S.cmpB rfl (S.loc (kOf hs rfl) rfl rfl) Y.str (by first | with_reducible exact CmpOK.eqS | with_reducible exact CmpOK.eqI | with_reducible exact CmpOK.eqB | with_reducible exact CmpOK.eqLI | with_reducible exact CmpOK.eqLP | ktr_rel)) (fun hq => (YB.and_one (S.cmpB rfl (S.loc (kOf hs rfl) rfl rfl) Y.str (by first | with_reducible exact CmpOK.eqS | with_reducible exact CmpOK.eqI | with_reducible exact CmpOK.eqB | with_reducible exact CmpOK.eqLI | with_reducible exact CmpOK.eqLP | ktr_rel)))))) (fun c6 => X.ret Y.bool (.inl (rb (iq c1 (iq c2 (iq c3 (iq c4 (iq c5 (ip c6))))))))) (fun c6 => X.nil ?_)
  refine X.ifs (S.cmpB rfl (S.loc (kOf hs rfl) rfl rfl) (S.glob (kOf hs rfl) rfl rfl (Stat.tup rfl rfl)) (by first | exact CmpOK.inT rfl | with_reducible exact CmpOK.inLS | with_reducible exact CmpOK.inLI | ktr_rel)) (fun c7 => X.ret (S.callN rfl (S.glob (kOf hs rfl) rfl rfl (Stat.fn rfl)) (S.consA rfl (S.loc (kOf hs rfl) rfl rfl) (S.consA rfl (S.loc (kOf hs rfl) rfl rfl) (S.consA rfl (S.meth rfl (S.loc (kOf hs rfl) rfl rfl) rfl ⟨rfl, rfl⟩ rfl rfl rfl ⟨_, rfl⟩ (S.consA rfl (S.meth rfl (S.loc (kOf hs rfl) rfl rfl) rfl ⟨rfl, rfl⟩ rfl rfl rfl ⟨_, rfl⟩ (S.consA rfl (Y.bin (S.loc (kOf hs rfl) rfl rfl) Y.int (by first | with_reducible exact BinOK.addI | ktr_rel)) Ys.nil) (ArgsOk.cons rfl) (wright_okI hT hc ?_)) Ys.nil) (ArgsOk.cons rfl) (wsort_ok hT hc)) Ys.nil))) (ArgsOk.cons rfl) (S.fnC rfl bridges_ok)) (.inl (rb (iq c1 (iq c2 (iq c3 (iq c4 (iq c5 (iq c6 (.trans ?_ (ip c7))))))))))) (fun c7 => X.nil ?_)
  · lia
  · rw [e1]
  refine X.ifs (S.cmpB rfl (S.loc (kOf hs rfl) rfl rfl) (S.glob (kOf hs rfl) rfl rfl (Stat.tup rfl rfl)) (by first | exact CmpOK.inT rfl | with_reducible exact CmpOK.inLS | with_reducible exact CmpOK.inLI | ktr_rel)) (fun c8 => X.ret (S.callN rfl (S.glob (kOf hs rfl) rfl rfl (Stat.fn rfl)) (S.consA rfl (S.meth rfl (S.loc (kOf hs rfl) rfl rfl) rfl ⟨rfl, rfl⟩ rfl rfl rfl ⟨_, rfl⟩ (S.consA rfl (S.meth rfl (S.loc (kOf hs rfl) rfl rfl) rfl ⟨rfl, rfl⟩ rfl rfl rfl ⟨_, rfl⟩ (S.consA rfl (S.loc (kOf hs rfl) rfl rfl) Ys.nil) (ArgsOk.cons rfl) (wleft_okI hT hc ?_)) Ys.nil) (ArgsOk.cons rfl) (wsort_ok hT hc)) (S.consA rfl (S.loc (kOf hs rfl) rfl rfl) (S.consA rfl (S.loc (kOf hs rfl) rfl rfl) Ys.nil))) (ArgsOk.cons rfl) (S.fnC rfl bridges_ok)) (.inl (rb (iq c1 (iq c2 (iq c3 (iq c4 (iq c5 (iq c6 (iq c7 (ip c8))))))))))) (fun c8 => X.nil ?_)
  · lia
  exact X.ret Y.bool (.inl (rb (iq c1 (iq c2 (iq c3 (iq c4 (iq c5 (iq c6 (iq c7 (iq c8 rfl))))))))))
noncomputable def wruleB (before after : Str) (pic joined : Bool) : Bool :=
  if before == "CR" && after == "LF" then false
  else if isIn WEnds before || isIn WEnds after then true
  else if before == "ZWJ" && pic then false
  else if before == "WSegSpace" && after == "WSegSpace" then false
  else if isIn WSkip after then false
  else !joined
noncomputable def wrule (T : Tb) (cs : List Int) (i : Nat) : Bool :=
  if i == 0 || decide (cs.length ≤ i) then decide (0 < cs.length)
  else wruleB (at' (wws T cs) (i - 1 : Nat)) (at' (wws T cs) i) (T.cl (cs.getD i default)).e (joinedW (wws T cs) i)
theorem wrule_ok (hT : TbOk T) {cs : List Int} (hc : TxOk T cs) {i : Nat} (hi : i ≤ cs.length) : CallOK w (n + 8) 435 [viewD T cs, .int i] (.bool (wrule T cs i)) := by
  refine call_fn (ps := ["view", "at"]) rfl rfl rfl (fun vs hl => ?_) (fun env hs => ?_)
  · obtain ⟨a, b, rfl⟩ := L2 hl; rfl
  have hsl := hc.sl
  refine X.assign (S.lenM (kOf hs rfl) rfl rfl (S.attr rfl (S.loc (kOf hs rfl) rfl rfl) rfl ⟨rfl, rfl⟩ rfl) ?_) (.inl (kOf hs rfl)) rfl ?_
  · exact hsl
  refine X.ifs (YB.boolop (YB.or_cons (S.cmpB rfl (S.loc (kOf hs rfl) rfl rfl) Y.int CmpOK.leI) (fun hq => (YB.or_one (S.cmpB rfl (S.loc (kOf hs rfl) rfl rfl) (S.loc (kOf hs rfl) rfl rfl) CmpOK.geI))))) (fun c0 => ?_) (fun c0 => X.nil ?_)
  · refine X.ret (S.cmpV rfl (S.loc (kOf hs rfl) rfl rfl) Y.int CmpOK.gtI) (.inl ?_)
    have : (i == 0 || decide (cs.length ≤ i)) = true := by
      simp only [Bool.or_eq_true, decide_eq_true_eq, beq_iff_eq] at c0 ⊢; lia
    refine rb (.trans ?_ (ip this))
    rw [decide_eq_decide]; exact Ar.iP
  have c0' : (i == 0 || decide (cs.length ≤ i)) = false := by
    simp only [Bool.or_eq_false_iff, decide_eq_false_iff_not, beq_eq_false_iff_ne] at c0 ⊢; lia
  have hb : 1 ≤ i ∧ i < cs.length := by
    simp only [Bool.or_eq_false_iff, decide_eq_false_iff_not, beq_eq_false_iff_ne] at c0'; apply Ar.k1 <;> assumption
  refine X.tupSw (xs := ["before", "after"]) rfl (swOf hs rfl) (Y.tuple (S.consA rfl (S.meth rfl (S.loc (kOf hs rfl) rfl rfl) rfl ⟨rfl, rfl⟩ rfl rfl rfl ⟨_, rfl⟩ (S.consA rfl (Y.bin (S.loc (kOf hs rfl) rfl rfl) Y.int BinOK.subI) Ys.nil) (ArgsOk.cons rfl) (wsort_ok hT hc)) (S.consA rfl (S.meth rfl (S.loc (kOf hs rfl) rfl rfl) rfl ⟨rfl, rfl⟩ rfl rfl rfl ⟨_, rfl⟩ (S.consA rfl (S.loc (kOf hs rfl) rfl rfl) Ys.nil) (ArgsOk.cons rfl) (wsort_ok hT hc)) Ys.nil)) (by rw [sizeLine_eq]; exact Nat.le_of_ble_eq_true rfl)) (kAll hs rfl) rfl ?_
  have e1 : ((i : Int) - 1) = (i - 1 : Nat) := by apply Ar.f6 <;> assumption
  rw [e1]
  refine X.ifs (YB.boolop (YB.and_cons (S.cmpB rfl (S.loc (kOf hs rfl) rfl rfl) Y.str (by first | with_reducible exact CmpOK.eqS | with_reducible exact CmpOK.eqI | with_reducible exact CmpOK.eqB | with_reducible exact CmpOK.eqLI | with_reducible exact CmpOK.eqLP | ktr_rel)) (fun hq => (YB.and_one (S.cmpB rfl (S.loc (kOf hs rfl) rfl rfl) Y.str (by first | with_reducible exact CmpOK.eqS | with_reducible exact CmpOK.eqI | with_reducible exact CmpOK.eqB | with_reducible exact CmpOK.eqLI | with_reducible exact CmpOK.eqLP | ktr_rel)))))) (fun c1 => X.ret Y.bool (.inl (rb (iq c0' (ip c1))))) (fun c1 => X.nil ?_)
  refine X.ifs (YB.boolop (YB.or_cons (S.cmpB rfl (S.loc (kOf hs rfl) rfl rfl) (S.glob (kOf hs rfl) rfl rfl (Stat.tup rfl rfl)) (by first | exact CmpOK.inT rfl | with_reducible exact CmpOK.inLS | with_reducible exact CmpOK.inLI | ktr_rel)) (fun hq => (YB.or_one (S.cmpB rfl (S.loc (kOf hs rfl) rfl rfl) (S.glob (kOf hs rfl) rfl rfl (Stat.tup rfl rfl)) (by first | exact CmpOK.inT rfl | with_reducible exact CmpOK.inLS | with_reducible exact CmpOK.inLI | ktr_rel)))))) (fun c2 => X.ret Y.bool (.inl (rb (iq c0' (iq c1 (ip c2)))))) (fun c2 => X.nil ?_)
  refine X.ifs (YB.boolop (YB.and_cons (S.cmpB rfl (S.loc (kOf hs rfl) rfl rfl) Y.str (by first | with_reducible exact CmpOK.eqS | with_reducible exact CmpOK.eqI | with_reducible exact CmpOK.eqB | with_reducible exact CmpOK.eqLI | with_reducible exact CmpOK.eqLP | ktr_rel)) (fun hq => (YB.and_one (S.ofB rfl (S.meth rfl (S.attr rfl (S.loc (kOf hs rfl) rfl rfl) rfl ⟨rfl, rfl⟩ rfl) rfl ⟨rfl, rfl⟩ rfl rfl rfl ⟨_, rfl⟩ (S.consA rfl Y.str (S.consA rfl (S.item (S.attr rfl (S.loc (kOf hs rfl) rfl rfl) rfl ⟨rfl, rfl⟩ rfl) (S.loc (kOf hs rfl) rfl rfl) (ItemIs.map ?_) (fun _ _ => rfl)) Ys.nil)) (ArgsOk.cons rfl) (get_e hT ?_))))))) (fun c3 => ?_) (fun c3 => X.nil ?_)
  · apply Ar.x2 <;> assumption
  · exact hc.at (by lia)
  · rw [Int.toNat_natCast] at c3
    exact X.ret Y.bool (.inl (rb (iq c0' (iq c1 (iq c2 (ip c3))))))
  rw [Int.toNat_natCast] at c3
  refine X.ifs (YB.boolop (YB.and_cons (S.cmpB rfl (S.loc (kOf hs rfl) rfl rfl) Y.str (by first | with_reducible exact CmpOK.eqS | with_reducible exact CmpOK.eqI | with_reducible exact CmpOK.eqB | with_reducible exact CmpOK.eqLI | with_reducible exact CmpOK.eqLP | ktr_rel)) (fun hq => (YB.and_one (S.cmpB rfl (S.loc (kOf hs rfl) rfl rfl) Y.str (by first | with_reducible exact CmpOK.eqS | with_reducible exact CmpOK.eqI | with_reducible exact CmpOK.eqB | with_reducible exact CmpOK.eqLI | with_reducible exact CmpOK.eqLP | ktr_rel)))))) (fun c4 => X.ret Y.bool (.inl (rb (iq c0' (iq c1 (iq c2 (iq c3 (ip c4)))))))) (fun c4 => X.nil ?_)
  refine X.ifs (S.cmpB rfl (S.loc (kOf hs rfl) rfl rfl) (S.glob (kOf hs rfl) rfl rfl (Stat.tup rfl rfl)) (by first | exact CmpOK.inT rfl | with_reducible exact CmpOK.inLS | with_reducible exact CmpOK.inLI | ktr_rel)) (fun c5 => X.ret Y.bool (.inl (rb (iq c0' (iq c1 (iq c2 (iq c3 (iq c4 (ip c5))))))))) (fun c5 => X.nil ?_)
  refine X.ret (Y.not (S.callN rfl (S.glob (kOf hs rfl) rfl rfl (Stat.fn rfl)) (S.consA rfl (S.loc (kOf hs rfl) rfl rfl) (S.consA rfl (S.loc (kOf hs rfl) rfl rfl) Ys.nil)) (ArgsOk.cons rfl) (S.fnC rfl (joined_ok hT hc ?_ ?_)))) (.inl (rb (iq c0' (iq c1 (iq c2 (iq c3 (iq c4 (iq c5 rfl))))))))
  · apply Ar.pos0 <;> assumption
  · lia
end
end Uni
namespace Uni
noncomputable abbrev SHang : List Str := ["Extend", "Format"]
noncomputable abbrev SParas : List Str := ["Sep", "CR", "LF"]
noncomputable abbrev STerms : List Str := ["ATerm", "STerm"]
noncomputable abbrev SCased : List Str := ["Upper", "Lower"]
noncomputable abbrev SStops : List Str := ["OLetter", "Upper", "Lower", "Sep", "CR", "LF", "ATerm", "STerm"]
noncomputable abbrev SNever : List Str := ["Extend", "Format", "SContinue", "ATerm", "STerm", "Sp", "Sep", "CR", "LF"]
noncomputable abbrev SRow : List Str := ["ATerm", "STerm", "Close", "Sp"]
noncomputable abbrev sK (S : List Str) : Nat → Bool := keptK SHang SParas S
noncomputable def baseS (S : List Str) (i : Int) : Int := prevK (sK S) i.toNat
theorem baseS_lt (S : List Str) (i : Nat) : baseS S i < i ∧ -1 ≤ baseS S i := by
  unfold baseS
  rw [Int.toNat_natCast]
  exact prevK_lt _ _
theorem prevK_and (k q : Nat → Bool) : ∀ i, prevK (fun j => k j && q j) i = if prevK k i < 0 then -1 else if q (prevK k i).toNat then prevK k i else prevK (fun j => k j && q j) (prevK k i).toNat
  | 0 => rfl
  | i + 1 => by
    rw [prevK, prevK]
    cases hk : k i with
    | false => simp only [Bool.false_and, Bool.false_eq_true, if_false]; exact prevK_and k q i
    | true =>
      simp only [Bool.true_and, if_true]
      rw [if_neg (c := (i : Int) < 0) (by lia), Int.toNat_natCast]
theorem prevK_k (k : Nat → Bool) : ∀ i, 0 ≤ prevK k i → k (prevK k i).toNat = true
  | 0, h => by simp [prevK] at h
  | i + 1, h => by
    rw [prevK] at h ⊢
    by_cases hk : k i = true
    · rw [if_pos hk, Int.toNat_natCast]; exact hk
    · rw [if_neg hk] at h ⊢; exact prevK_k k i h
noncomputable def notK (S : List Str) (x : Str) : Nat → Bool := fun j => sK S j && !(S.getD j "" == x)
noncomputable def skipS (S : List Str) (x : Str) (p : Int) : Int := prevK (notK S x) (p + 1).toNat
theorem skipS_step {S : List Str} {x : Str} (hx : x ≠ "") (p : Int) (h1 : -1 ≤ p) (hk : 0 ≤ p → sK S p.toNat = true) : skipS S x p = if at' S p == x then skipS S x (baseS S p) else p := by
  by_cases h0 : 0 ≤ p
  · obtain ⟨j, rfl⟩ : ∃ j : Nat, p = j := ⟨p.toNat, by apply Ar.w5 <;> assumption⟩
    have e : ((j : Int) + 1).toNat = j + 1 := by apply Ar.tnA <;> assumption
    have hk := hk h0
    rw [Int.toNat_natCast] at hk
    unfold skipS
    rw [e, prevK, at', if_pos h0, Int.toNat_natCast]
    unfold notK
    rw [hk, Bool.true_and]
    cases hq : (S.getD j "" == x) with
    | false => rfl
    | true =>
      simp only [Bool.not_true, Bool.false_eq_true, if_false, if_true]
      have hb := baseS_lt S j
      have hd : baseS S j = prevK (sK S) j := rfl
      rw [prevK_and (sK S) (fun j => !(S.getD j "" == x)) j, hd]
      by_cases hn : prevK (sK S) j < 0
      · rw [if_pos hn, show prevK (sK S) j = -1 by lia]; rfl
      · obtain ⟨m, hm⟩ : ∃ m : Nat, prevK (sK S) j = m := ⟨(prevK (sK S) j).toNat, by lia⟩
        have hkm := prevK_k (sK S) j (by lia)
        rw [if_neg hn, hm, Int.toNat_natCast, show ((m : Int) + 1).toNat = m + 1 from Ar.tnA _]
        rw [hm, Int.toNat_natCast] at hkm
        rw [prevK, hkm, Bool.true_and]
  · have : p = -1 := by apply Ar.l3 <;> assumption
    subst this
    have e : at' S (-1) = "" := rfl
    rw [e, if_neg (by rw [beq_iff_eq]; exact fun h => hx h.symm)]; rfl
noncomputable def tailS (S : List Str) (i : Int) : Int := skipS S "Close" (skipS S "Sp" (baseS S i))
noncomputable def goesS (S : List Str) (i : Nat) : Bool := match (S.drop i).find? (isIn SStops ·) with
  | some x => x == "Lower"
  | none => false
noncomputable def abbrS (S : List Str) (i : Int) : Bool :=
  if at' S (baseS S i) != "ATerm" then false
  else if at' S i == "Upper" then isIn SCased (at' S (baseS S (baseS S i)))
  else at' S i == "Numeric"
noncomputable def sss (T : Tb) (cs : List Int) : List Str := cs.map fun c => (T.cl c).s
noncomputable def sbrkB (last kind before term : Str) (abb goes : Bool) : Bool :=
  if isIn SParas last then last != "CR" || kind != "LF"
  else if isIn SNever kind then false
  else if !isIn SRow before || (kind == "Close" && before != "Sp" || abb) then false
  else term == "STerm" || (term == "ATerm" && !goes)
noncomputable def sbrk (S : List Str) (i : Nat) : Bool :=
  if i == 0 || i == S.length then decide (0 < S.length)
  else sbrkB (at' S (i - 1 : Nat)) (at' S i) (at' S (baseS S i)) (if isIn STerms (at' S (tailS S i)) then at' S (tailS S i) else "") (abbrS S i) (goesS S i)
section
variable {w : World} {n : Nat} {T : Tb}
set_option maxHeartbeats 4000000
theorem sss_at {cs : List Int} {i : Int} (h0 : 0 ≤ i) (h : i < cs.length) : (T.cl (cs.getD i.toNat default)).s = at' (sss T cs) i := by
  have : i.toNat < cs.length := by apply Ar.b1 <;> assumption
  simp only [at', if_pos h0, sss]
  rw [List.getD_eq_getElem?_getD, List.getD_eq_getElem?_getD, List.getElem?_map, List.getElem?_eq_getElem this]; rfl
theorem sss_out {cs : List Int} {i : Int} (h : ¬ (0 ≤ i ∧ i < cs.length)) : at' (sss T cs) i = "" := by
  unfold at'
  by_cases h0 : 0 ≤ i
  · rw [if_pos h0, List.getD_eq_getElem?_getD, List.getElem?_eq_none (by simp [sss]; apply Ar.o2 <;> assumption)]; rfl
  · rw [if_neg h0]
theorem sss_len {cs : List Int} : (sss T cs).length = cs.length := by simp [sss]
theorem skind_ok (hT : TbOk T) {cs : List Int} (hc : TxOk T cs) {i : Int} : CallOK w (n + 4) 316 [.lst (cs.map .int), .int i, dataD T.ms] (.str (at' (sss T cs) i)) := by
  refine call_fn (ps := ["text", "at", "data"]) rfl rfl rfl (fun vs hl => ?_) (fun env hs => ?_)
  · obtain ⟨a, b, c, rfl⟩ := L3 hl; rfl
  have hsl := hc.sl
  refine X.ret (Y.ifexpS (S.cmp2B rfl Y.int (S.loc (kOf hs rfl) rfl rfl) (S.lenM (kOf hs rfl) rfl rfl (S.loc (kOf hs rfl) rfl rfl) ?_) CmpOK.leI CmpOK.ltI) (fun hq => (S.meth rfl (S.loc (kOf hs rfl) rfl rfl) rfl ⟨rfl, rfl⟩ rfl rfl rfl ⟨_, rfl⟩ (S.consA rfl Y.str (S.consA rfl (S.item (S.loc (kOf hs rfl) rfl rfl) (S.loc (kOf hs rfl) rfl rfl) (ItemIs.map ?_) (fun _ _ => rfl)) Ys.nil)) (ArgsOk.cons rfl) (get_s hT ?_))) (fun hq => Y.str)) (.inl ?_)
  · exact hsl
  · simp at hq; apply Ar.t4 <;> assumption
  · simp at hq; exact hc.at (by assumption)
  · by_cases h : 0 ≤ i ∧ i < (cs.length : Int)
    · rw [if_pos (by simp [h.1, h.2]), sss_at h.1 h.2]
    · rw [if_neg (by simp; apply Ar.o1 <;> assumption), sss_out h]
theorem hangs_ok (hT : TbOk T) {cs : List Int} (hc : TxOk T cs) {i : Nat} : CallOK w (n + 5) 323 [.lst (cs.map .int), .int i, dataD T.ms] (.bool (!sK (sss T cs) i)) := by
  refine call_fn (ps := ["text", "at", "data"]) rfl rfl rfl (fun vs hl => ?_) (fun env hs => ?_)
  · obtain ⟨a, b, c, rfl⟩ := L3 hl; rfl
  have e : at' (sss T cs) (i : Int) = (sss T cs).getD i "" := by rw [at', if_pos (by exact Int.natCast_nonneg _), Int.toNat_natCast]
  refine X.ifs (YB.boolop (YB.or_cons (S.cmpB rfl (S.callN rfl (S.glob (kOf hs rfl) rfl rfl (Stat.fn rfl)) (S.consA rfl (S.loc (kOf hs rfl) rfl rfl) (S.consA rfl (S.loc (kOf hs rfl) rfl rfl) (S.consA rfl (S.loc (kOf hs rfl) rfl rfl) Ys.nil))) (ArgsOk.cons rfl) (S.fnC rfl (skind_ok hT hc))) (S.glob (kOf hs rfl) rfl rfl (Stat.tup rfl rfl)) (by first | exact CmpOK.ninT rfl | with_reducible exact CmpOK.ninLI | ktr_rel)) (fun hq => (YB.or_one (S.cmpB rfl (S.loc (kOf hs rfl) rfl rfl) Y.int (by first | with_reducible exact CmpOK.eqS | with_reducible exact CmpOK.eqI | with_reducible exact CmpOK.eqB | with_reducible exact CmpOK.eqLI | with_reducible exact CmpOK.eqLP | ktr_rel)))))) (fun c1 => ?_) (fun c1 => X.nil ?_)
  · refine X.ret Y.bool (.inl (rb ?_))
    rw [e] at c1
    have : sK (sss T cs) i = true := by
      rw [Bool.or_eq_true, beq_iff_eq] at c1
      simp only [sK, keptK, Bool.or_eq_true, beq_iff_eq]
      rcases c1 with c1 | c1
      · exact .inl (.inl c1)
      · exact .inl (.inr (by lia))
    rw [this]; rfl
  · refine X.ret (S.cmpV rfl (S.callN rfl (S.glob (kOf hs rfl) rfl rfl (Stat.fn rfl)) (S.consA rfl (S.loc (kOf hs rfl) rfl rfl) (S.consA rfl (Y.bin (S.loc (kOf hs rfl) rfl rfl) Y.int BinOK.subI) (S.consA rfl (S.loc (kOf hs rfl) rfl rfl) Ys.nil))) (ArgsOk.cons rfl) (S.fnC rfl (skind_ok hT hc))) (S.glob (kOf hs rfl) rfl rfl (Stat.tup rfl rfl)) (by first | exact CmpOK.ninT rfl | with_reducible exact CmpOK.ninLI | ktr_rel)) (.inl (rb ?_))
    rw [e] at c1
    rw [Bool.or_eq_false_iff, beq_eq_false_iff_ne] at c1
    have e2 : at' (sss T cs) ((i : Int) - 1) = (sss T cs).getD (i - 1) "" := by rw [at', if_pos (by lia), show ((i : Int) - 1).toNat = i - 1 from Ar.tnS _]
    have c2 : isIn SHang ((sss T cs).getD i "") = true := by
      have := c1.1
      rw [Bool.not_eq_false'] at this; exact this
    have c3 : (i == 0) = false := by simp; lia
    rw [e2]
    simp only [sK, keptK, c2, c3, Bool.not_true, Bool.false_or]
    rfl
theorem hangs_okI (hT : TbOk T) {cs : List Int} (hc : TxOk T cs) {i : Int} (hi : 0 ≤ i) : CallOK w (n + 5) 323 [.lst (cs.map .int), .int i, dataD T.ms] (.bool (!sK (sss T cs) i.toNat)) := by
  obtain ⟨k, rfl⟩ : ∃ k : Nat, i = k := ⟨i.toNat, by apply Ar.w5 <;> assumption⟩
  exact hangs_ok hT hc
theorem base_ok (hT : TbOk T) {cs : List Int} (hc : TxOk T cs) {i : Int} (hi : 0 ≤ i) : CallOK w (n + 6) 330 [.lst (cs.map .int), .int i, dataD T.ms] (.int (baseS (sss T cs) i)) := by
  obtain ⟨k, rfl⟩ : ∃ k : Nat, i = k := ⟨i.toNat, by apply Ar.w5 <;> assumption⟩
  refine call_fn (ps := ["text", "at", "data"]) rfl rfl rfl (fun vs hl => ?_) (fun env hs => ?_)
  · obtain ⟨a, b, c, rfl⟩ := L3 hl; rfl
  refine X.assign (Y.bin (S.loc (kOf hs rfl) rfl rfl) Y.int BinOK.subI) (.inl (kOf hs rfl)) rfl ?_
  refine X.whileI (fun j : Nat => [("text", .lst (cs.map .int)), ("data", dataD T.ms), ("at", .int ((j : Int) - 1))])
    (fun m j => m = j ∧ prevK (sK (sss T cs)) j = prevK (sK (sss T cs)) k) k k ⟨rfl, rfl⟩ ⟨rfl, rfl, rfl, trivial⟩ ?_
  rintro m j ⟨hm, g1⟩
  refine ⟨_, (YB.boolop (YB.and_cons (S.cmpB rfl (S.loc (kOf hs rfl) rfl rfl) Y.int CmpOK.gtI) (fun hq => (YB.and_one (S.ofB rfl (S.callN rfl (S.glob (kOf hs rfl) rfl rfl (Stat.fn rfl)) (S.consA rfl (S.loc (kOf hs rfl) rfl rfl) (S.consA rfl (S.loc (kOf hs rfl) rfl rfl) (S.consA rfl (S.loc (kOf hs rfl) rfl rfl) Ys.nil))) (ArgsOk.cons rfl) (S.fnC rfl (hangs_okI hT hc ?_)))))))), fun hb => ?_, fun hb => ?_⟩
  · have := of_decide_eq_true hq; lia
  · rw [Bool.and_eq_true, decide_eq_true_eq, Bool.not_eq_true', show ((j : Int) - 1).toNat = j - 1 from Ar.tnS _] at hb
    obtain ⟨p, rfl⟩ : ∃ p, j = p + 1 := ⟨j - 1, by apply Ar.u9 <;> assumption⟩
    rw [Nat.add_sub_cancel] at hb
    refine X.assign (Y.bin (S.loc (kOf hs rfl) rfl rfl) Y.int BinOK.subI) (.inl (kOf hs rfl)) rfl ?_
    refine X.nil ⟨p, p, by apply Ar.v1 <;> assumption, ⟨rfl, ?_⟩, rfl, rfl, ?_, trivial⟩
    · rw [← g1, prevK, if_neg (by rw [hb.2]; decide)]
    · show some (D.int _) = some (D.int _)
      rw [show ((p + 1 : Nat) : Int) - 1 - 1 = (p : Int) - 1 by lia]
  · refine X.ret (S.loc (kOf hs rfl) rfl rfl) (.inl ?_)
    rw [Bool.and_eq_false_iff, decide_eq_false_iff_not, show ((j : Int) - 1).toNat = j - 1 from Ar.tnS _] at hb
    have : baseS (sss T cs) k = prevK (sK (sss T cs)) k := by unfold baseS; rw [Int.toNat_natCast]
    rw [this, ← g1]
    cases j with
    | zero => rfl
    | succ p =>
      rw [Nat.add_sub_cancel] at hb
      have hk : sK (sss T cs) p = true := by
        rcases hb with hb | hb
        · have : p = 0 := by lia
          subst this; simp [sK, keptK]
        · simpa using hb
      rw [prevK, if_pos hk]
      congr 2; exact Ar.r5
theorem tail_ok (hT : TbOk T) {cs : List Int} (hc : TxOk T cs) {i : Nat} : ∃ a b, CallOK w (n + 7) 337 [.lst (cs.map .int), .int i, dataD T.ms] (.tup [.str (if isIn STerms (at' (sss T cs) (tailS (sss T cs) i)) then at' (sss T cs) (tailS (sss T cs) i) else ""), .int a, .bool b]) := by
  have hb0 := baseS_lt (sss T cs) i
  by_cases ht : isIn STerms (at' (sss T cs) (tailS (sss T cs) i)) = true
  all_goals
    refine ⟨if isIn STerms (at' (sss T cs) (tailS (sss T cs) i)) then tailS (sss T cs) i else -1, if isIn STerms (at' (sss T cs) (tailS (sss T cs) i)) then at' (sss T cs) (baseS (sss T cs) i) == "Sp" else false, ?_⟩
    refine call_fn (ps := ["text", "at", "data"]) rfl rfl rfl (fun vs hl => ?_) (fun env hs => ?_)
    · obtain ⟨a, b, c, rfl⟩ := L3 hl; rfl
    refine X.assign (S.callN rfl (S.glob (kOf hs rfl) rfl rfl (Stat.fn rfl)) (S.consA rfl (S.loc (kOf hs rfl) rfl rfl) (S.consA rfl (S.loc (kOf hs rfl) rfl rfl) (S.consA rfl (S.loc (kOf hs rfl) rfl rfl) Ys.nil))) (ArgsOk.cons rfl) (S.fnC rfl (base_ok hT hc ?_))) (.inl (kOf hs rfl)) rfl ?_
    · exact Int.natCast_nonneg _
    refine X.assign (S.cmpV rfl (S.callN rfl (S.glob (kOf hs rfl) rfl rfl (Stat.fn rfl)) (S.consA rfl (S.loc (kOf hs rfl) rfl rfl) (S.consA rfl (S.loc (kOf hs rfl) rfl rfl) (S.consA rfl (S.loc (kOf hs rfl) rfl rfl) Ys.nil))) (ArgsOk.cons rfl) (S.fnC rfl (skind_ok hT hc))) Y.str (by first | with_reducible exact CmpOK.eqS | with_reducible exact CmpOK.eqI | with_reducible exact CmpOK.eqB | with_reducible exact CmpOK.eqLI | with_reducible exact CmpOK.eqLP | ktr_rel)) (.inl (kOf hs rfl)) rfl ?_
    have hkB : 0 ≤ baseS (sss T cs) i → sK (sss T cs) (baseS (sss T cs) i).toNat = true := fun h => prevK_k _ _ h
    refine X.whileI (fun p : Int => [("text", .lst (cs.map .int)), ("data", dataD T.ms), ("is_spaced", .bool (at' (sss T cs) (baseS (sss T cs) i) == "Sp")), ("there", .int p)])
      (fun m p => -1 ≤ p ∧ m = (p + 1).toNat ∧ (0 ≤ p → sK (sss T cs) p.toNat = true) ∧ skipS (sss T cs) "Sp" p = skipS (sss T cs) "Sp" (baseS (sss T cs) i)) (baseS (sss T cs) i + 1).toNat (baseS (sss T cs) i) ⟨hb0.2, rfl, hkB, rfl⟩ ⟨rfl, rfl, rfl, rfl, trivial⟩ ?_
    rintro m p ⟨g1, hm, g2, g3⟩
    have st := skipS_step (S := sss T cs) (x := "Sp") (by decide) p g1 g2
    refine ⟨_, (S.cmpB rfl (S.callN rfl (S.glob (kOf hs rfl) rfl rfl (Stat.fn rfl)) (S.consA rfl (S.loc (kOf hs rfl) rfl rfl) (S.consA rfl (S.loc (kOf hs rfl) rfl rfl) (S.consA rfl (S.loc (kOf hs rfl) rfl rfl) Ys.nil))) (ArgsOk.cons rfl) (S.fnC rfl (skind_ok hT hc))) Y.str (by first | with_reducible exact CmpOK.eqS | with_reducible exact CmpOK.eqI | with_reducible exact CmpOK.eqB | with_reducible exact CmpOK.eqLI | with_reducible exact CmpOK.eqLP | ktr_rel)), fun hb => ?_, fun hb => ?_⟩
    · rw [if_pos hb] at st
      have hp0 : 0 ≤ p := by
        rcases Int.lt_or_le p 0 with h | h
        · have : p = -1 := by lia
          subst this; have e0 : at' (sss T cs) (-1) = "" := rfl
          rw [e0] at hb; revert hb; decide
        · exact h
      obtain ⟨k, rfl⟩ : ∃ k : Nat, p = k := ⟨p.toNat, by apply Ar.w5 <;> assumption⟩
      have hb1 := baseS_lt (sss T cs) k
      refine X.assign (S.callN rfl (S.glob (kOf hs rfl) rfl rfl (Stat.fn rfl)) (S.consA rfl (S.loc (kOf hs rfl) rfl rfl) (S.consA rfl (S.loc (kOf hs rfl) rfl rfl) (S.consA rfl (S.loc (kOf hs rfl) rfl rfl) Ys.nil))) (ArgsOk.cons rfl) (S.fnC rfl (base_ok hT hc ?_))) (.inl (kOf hs rfl)) rfl ?_
      · assumption
      exact X.nil ⟨(baseS (sss T cs) k + 1).toNat, baseS (sss T cs) k, by apply Ar.f1 <;> assumption, ⟨hb1.2, rfl, fun h => prevK_k _ _ h, by rw [← st, g3]⟩, rfl, rfl, rfl, rfl, trivial⟩
    rw [if_neg (ne_true_of_eq_false hb)] at st
    have g3 : p = skipS (sss T cs) "Sp" (baseS (sss T cs) i) := by rw [← g3, st]
    refine X.whileI (fun p : Int => [("text", .lst (cs.map .int)), ("data", dataD T.ms), ("is_spaced", .bool (at' (sss T cs) (baseS (sss T cs) i) == "Sp")), ("there", .int p)])
      (fun m q => -1 ≤ q ∧ m = (q + 1).toNat ∧ (0 ≤ q → sK (sss T cs) q.toNat = true) ∧ skipS (sss T cs) "Close" q = tailS (sss T cs) i) (p + 1).toNat p ⟨g1, rfl, g2, by unfold tailS; rw [← g3]⟩ ⟨rfl, rfl, rfl, rfl, trivial⟩ ?_
    clear st hb g3 g2 hm g1
    rintro m' q ⟨g1, hm, g2, g3⟩
    have st := skipS_step (S := sss T cs) (x := "Close") (by decide) q g1 g2
    refine ⟨_, (S.cmpB rfl (S.callN rfl (S.glob (kOf hs rfl) rfl rfl (Stat.fn rfl)) (S.consA rfl (S.loc (kOf hs rfl) rfl rfl) (S.consA rfl (S.loc (kOf hs rfl) rfl rfl) (S.consA rfl (S.loc (kOf hs rfl) rfl rfl) Ys.nil))) (ArgsOk.cons rfl) (S.fnC rfl (skind_ok hT hc))) Y.str (by first | with_reducible exact CmpOK.eqS | with_reducible exact CmpOK.eqI | with_reducible exact CmpOK.eqB | with_reducible exact CmpOK.eqLI | with_reducible exact CmpOK.eqLP | ktr_rel)), fun hb => ?_, fun hb => ?_⟩
    · rw [if_pos hb] at st
      have hp0 : 0 ≤ q := by
        rcases Int.lt_or_le q 0 with h | h
        · have : q = -1 := by lia
          subst this; have e0 : at' (sss T cs) (-1) = "" := rfl
          rw [e0] at hb; revert hb; decide
        · exact h
      obtain ⟨k, rfl⟩ : ∃ k : Nat, q = k := ⟨q.toNat, by apply Ar.w5 <;> assumption⟩
      have hb1 := baseS_lt (sss T cs) k
      refine X.assign (S.callN rfl (S.glob (kOf hs rfl) rfl rfl (Stat.fn rfl)) (S.consA rfl (S.loc (kOf hs rfl) rfl rfl) (S.consA rfl (S.loc (kOf hs rfl) rfl rfl) (S.consA rfl (S.loc (kOf hs rfl) rfl rfl) Ys.nil))) (ArgsOk.cons rfl) (S.fnC rfl (base_ok hT hc ?_))) (.inl (kOf hs rfl)) rfl ?_
      · assumption
      exact X.nil ⟨(baseS (sss T cs) k + 1).toNat, baseS (sss T cs) k, by apply Ar.f1 <;> assumption, ⟨hb1.2, rfl, fun h => prevK_k _ _ h, by rw [← st, g3]⟩, rfl, rfl, rfl, rfl, trivial⟩
    rw [if_neg (ne_true_of_eq_false hb)] at st
    have g3 : q = tailS (sss T cs) i := by rw [← g3, st]
    subst g3
    refine X.assign (S.callN rfl (S.glob (kOf hs rfl) rfl rfl (Stat.fn rfl)) (S.consA rfl (S.loc (kOf hs rfl) rfl rfl) (S.consA rfl (S.loc (kOf hs rfl) rfl rfl) (S.consA rfl (S.loc (kOf hs rfl) rfl rfl) Ys.nil))) (ArgsOk.cons rfl) (S.fnC rfl (skind_ok hT hc))) (.inl (kOf hs rfl)) rfl ?_
    first
      | rw [if_pos ht, if_pos ht, if_pos ht]
      | rw [if_neg ht, if_neg ht, if_neg ht]
    refine X.ret (Y.ifexp (S.cmpB rfl (S.loc (kOf hs rfl) rfl rfl) (S.glob (kOf hs rfl) rfl rfl (Stat.tup rfl rfl)) (by first | exact CmpOK.inT rfl | with_reducible exact CmpOK.inLS | with_reducible exact CmpOK.inLI | ktr_rel)) (fun h => ?_) (fun h => ?_)) (.inl rfl)
    · first
        | exact absurd h ht
        | exact (Y.tuple (S.consA rfl (S.loc (kOf hs rfl) rfl rfl) (S.consA rfl (S.loc (kOf hs rfl) rfl rfl) (S.consA rfl (S.loc (kOf hs rfl) rfl rfl) Ys.nil))) (by rw [sizeLine_eq]; exact Nat.le_of_ble_eq_true rfl))
    · first
        | exact absurd ht (ne_true_of_eq_false h)
        | exact (Y.tuple (S.consA rfl Y.str (S.consA rfl (Y.neg Y.int) (S.consA rfl Y.bool Ys.nil))) (by rw [sizeLine_eq]; exact Nat.le_of_ble_eq_true rfl))
theorem goes_ok (hT : TbOk T) {cs : List Int} (hc : TxOk T cs) {i : Nat} (hi : i ≤ cs.length) : CallOK w (n + 5) 344 [.lst (cs.map .int), .int i, dataD T.ms] (.bool (goesS (sss T cs) i)) := by
  refine call_fn (ps := ["text", "at", "data"]) rfl rfl rfl (fun vs hl => ?_) (fun env hs => ?_)
  · obtain ⟨a, b, c, rfl⟩ := L3 hl; rfl
  have hsl := hc.sl
  refine X.whileI (fun j : Nat => [("text", .lst (cs.map .int)), ("data", dataD T.ms), ("at", .int j)])
    (fun m j => j ≤ cs.length ∧ m = cs.length - j ∧ goesS (sss T cs) j = goesS (sss T cs) i) (cs.length - i) i ⟨hi, rfl, rfl⟩ ⟨rfl, rfl, rfl, trivial⟩ ?_
  rintro m j ⟨g1, hm, g2⟩
  refine ⟨_, (S.cmpB rfl (S.loc (kOf hs rfl) rfl rfl) (S.lenM (kOf hs rfl) rfl rfl (S.loc (kOf hs rfl) rfl rfl) ?_) CmpOK.ltI), fun hb => ?_, fun hb => ?_⟩
  · exact hsl
  · rw [decide_eq_true_eq] at hb
    have hj : j < (sss T cs).length := by rw [sss_len]; apply Ar.ltd <;> assumption
    have e : at' (sss T cs) (j : Int) = (sss T cs)[j] := by rw [at', if_pos (by exact Int.natCast_nonneg _), Int.toNat_natCast, List.getD_eq_getElem?_getD, List.getElem?_eq_getElem hj]; rfl
    have hgo : goesS (sss T cs) j = if isIn SStops (sss T cs)[j] then (sss T cs)[j] == "Lower" else goesS (sss T cs) (j + 1) := by
      unfold goesS
      rw [List.drop_eq_getElem_cons hj, List.find?_cons]
      cases isIn SStops (sss T cs)[j] <;> rfl
    refine X.assign (S.callN rfl (S.glob (kOf hs rfl) rfl rfl (Stat.fn rfl)) (S.consA rfl (S.loc (kOf hs rfl) rfl rfl) (S.consA rfl (S.loc (kOf hs rfl) rfl rfl) (S.consA rfl (S.loc (kOf hs rfl) rfl rfl) Ys.nil))) (ArgsOk.cons rfl) (S.fnC rfl (skind_ok hT hc))) (.inl (kOf hs rfl)) rfl ?_
    rw [e]
    refine X.ifs (S.cmpB rfl (S.loc (kOf hs rfl) rfl rfl) (S.glob (kOf hs rfl) rfl rfl (Stat.tup rfl rfl)) (by first | exact CmpOK.inT rfl | with_reducible exact CmpOK.inLS | with_reducible exact CmpOK.inLI | ktr_rel)) (fun c1 => ?_) (fun c1 => X.nil ?_)
    · refine X.ret (S.cmpV rfl (S.loc (kOf hs rfl) rfl rfl) Y.str (by first | with_reducible exact CmpOK.eqS | with_reducible exact CmpOK.eqI | with_reducible exact CmpOK.eqB | with_reducible exact CmpOK.eqLI | with_reducible exact CmpOK.eqLP | ktr_rel)) (.inl (rb ?_))
      rw [← g2, hgo]; exact ip c1
    · refine X.assign (Y.bin (S.loc (kOf hs rfl) rfl rfl) Y.int (by first | with_reducible exact BinOK.addI | ktr_rel)) (.inl (kOf hs rfl)) rfl ?_
      refine X.nil ⟨cs.length - (j + 1), j + 1, by apply Ar.decI <;> assumption, ⟨by apply Ar.q6 <;> assumption, rfl, ?_⟩, rfl, rfl, rfl, trivial⟩
      rw [← g2, hgo]; exact iq c1 rfl
  · rw [decide_eq_false_iff_not] at hb
    refine X.ret Y.bool (.inl (rb ?_))
    rw [← g2]
    unfold goesS
    rw [List.drop_eq_nil_of_le (by rw [sss_len]; apply Ar.aT <;> assumption)]; rfl
theorem abbr_ok (hT : TbOk T) {cs : List Int} (hc : TxOk T cs) {i : Nat} (hi : 1 ≤ i) : CallOK w (n + 7) 351 [.lst (cs.map .int), .int i, dataD T.ms] (.bool (abbrS (sss T cs) i)) := by
  refine call_fn (ps := ["text", "at", "data"]) rfl rfl rfl (fun vs hl => ?_) (fun env hs => ?_)
  · obtain ⟨a, b, c, rfl⟩ := L3 hl; rfl
  have hp : 0 ≤ baseS (sss T cs) i := by
    unfold baseS; rw [Int.toNat_natCast]
    clear hc hs hT
    induction i with
    | zero => lia
    | succ i ih =>
      rw [prevK]
      split
      · exact Int.natCast_nonneg _
      · rename_i hk
        cases i with
        | zero => exact absurd (by simp [sK, keptK]) hk
        | succ i => exact ih (by lia)
  refine X.assign (S.callN rfl (S.glob (kOf hs rfl) rfl rfl (Stat.fn rfl)) (S.consA rfl (S.loc (kOf hs rfl) rfl rfl) (S.consA rfl (S.loc (kOf hs rfl) rfl rfl) (S.consA rfl (S.loc (kOf hs rfl) rfl rfl) Ys.nil))) (ArgsOk.cons rfl) (S.fnC rfl (base_ok hT hc ?_))) (.inl (kOf hs rfl)) rfl ?_
  · exact Int.natCast_nonneg _
  refine X.ifs (S.cmpB rfl (S.callN rfl (S.glob (kOf hs rfl) rfl rfl (Stat.fn rfl)) (S.consA rfl (S.loc (kOf hs rfl) rfl rfl) (S.consA rfl (S.loc (kOf hs rfl) rfl rfl) (S.consA rfl (S.loc (kOf hs rfl) rfl rfl) Ys.nil))) (ArgsOk.cons rfl) (S.fnC rfl (skind_ok hT hc))) Y.str (by first | with_reducible exact CmpOK.neS | with_reducible exact CmpOK.neI | with_reducible exact CmpOK.neB | with_reducible exact CmpOK.neLI0 | with_reducible exact CmpOK.neLI | with_reducible exact CmpOK.neO | ktr_rel)) (fun c1 => X.ret Y.bool (.inl (rb (ip c1)))) (fun c1 => X.nil ?_)
  refine X.assign (S.callN rfl (S.glob (kOf hs rfl) rfl rfl (Stat.fn rfl)) (S.consA rfl (S.loc (kOf hs rfl) rfl rfl) (S.consA rfl (S.loc (kOf hs rfl) rfl rfl) (S.consA rfl (S.loc (kOf hs rfl) rfl rfl) Ys.nil))) (ArgsOk.cons rfl) (S.fnC rfl (skind_ok hT hc))) (.inl (kOf hs rfl)) rfl ?_
  refine X.ifs (S.cmpB rfl (S.loc (kOf hs rfl) rfl rfl) Y.str (by first | with_reducible exact CmpOK.eqS | with_reducible exact CmpOK.eqI | with_reducible exact CmpOK.eqB | with_reducible exact CmpOK.eqLI | with_reducible exact CmpOK.eqLP | ktr_rel)) (fun c2 => X.ret (S.cmpV rfl (S.callN rfl (S.glob (kOf hs rfl) rfl rfl (Stat.fn rfl)) (S.consA rfl (S.loc (kOf hs rfl) rfl rfl) (S.consA rfl (S.callN rfl (S.glob (kOf hs rfl) rfl rfl (Stat.fn rfl)) (S.consA rfl (S.loc (kOf hs rfl) rfl rfl) (S.consA rfl (S.loc (kOf hs rfl) rfl rfl) (S.consA rfl (S.loc (kOf hs rfl) rfl rfl) Ys.nil))) (ArgsOk.cons rfl) (S.fnC rfl (base_ok hT hc ?_))) (S.consA rfl (S.loc (kOf hs rfl) rfl rfl) Ys.nil))) (ArgsOk.cons rfl) (S.fnC rfl (skind_ok hT hc))) (S.glob (kOf hs rfl) rfl rfl (Stat.tup rfl rfl)) (by first | exact CmpOK.inT rfl | with_reducible exact CmpOK.inLS | with_reducible exact CmpOK.inLI | ktr_rel)) (.inl (rb (iq c1 (ip c2))))) (fun c2 => X.nil ?_)
  · exact hp
  exact X.ret (S.cmpV rfl (S.loc (kOf hs rfl) rfl rfl) Y.str (by first | with_reducible exact CmpOK.eqS | with_reducible exact CmpOK.eqI | with_reducible exact CmpOK.eqB | with_reducible exact CmpOK.eqLI | with_reducible exact CmpOK.eqLP | ktr_rel)) (.inl (rb (iq c1 (iq c2 rfl))))
theorem sbrk_ok (hT : TbOk T) {cs : List Int} (hc : TxOk T cs) {i : Nat} (hi : i ≤ cs.length) : CallOK w (n + 8) 358 [.lst (cs.map .int), .int i, dataD T.ms] (.bool (sbrk (sss T cs) i)) := by
  refine call_fn (ps := ["text", "at", "data"]) rfl rfl rfl (fun vs hl => ?_) (fun env hs => ?_)
  · obtain ⟨a, b, c, rfl⟩ := L3 hl; rfl
  have hsl := hc.sl
  have hln := sss_len (T := T) (cs := cs)
  refine X.ifs (YB.boolop (YB.or_cons (S.cmpB rfl (S.loc (kOf hs rfl) rfl rfl) Y.int (by first | with_reducible exact CmpOK.eqS | with_reducible exact CmpOK.eqI | with_reducible exact CmpOK.eqB | with_reducible exact CmpOK.eqLI | with_reducible exact CmpOK.eqLP | ktr_rel)) (fun hq => (YB.or_one (S.cmpB rfl (S.loc (kOf hs rfl) rfl rfl) (S.lenM (kOf hs rfl) rfl rfl (S.loc (kOf hs rfl) rfl rfl) ?_) (by first | with_reducible exact CmpOK.eqS | with_reducible exact CmpOK.eqI | with_reducible exact CmpOK.eqB | with_reducible exact CmpOK.eqLI | with_reducible exact CmpOK.eqLP | ktr_rel)))))) (fun c0 => ?_) (fun c0 => X.nil ?_)
  · exact hsl
  · refine X.ret (S.cmpV rfl (S.lenM (kOf hs rfl) rfl rfl (S.loc (kOf hs rfl) rfl rfl) ?_) Y.int CmpOK.gtI) (.inl (rb ?_))
    · exact hsl
    have : (i == 0 || i == (sss T cs).length) = true := by
      simp only [Bool.or_eq_true, beq_iff_eq] at c0 ⊢; lia
    refine .trans ?_ (ip this)
    rw [decide_eq_decide, hln]; exact Ar.iP
  have c0' : (i == 0 || i == (sss T cs).length) = false := by
    simp only [Bool.or_eq_false_iff, beq_eq_false_iff_ne] at c0 ⊢; lia
  have hb : 1 ≤ i ∧ i < cs.length := by
    simp only [Bool.or_eq_false_iff, beq_eq_false_iff_ne] at c0'; lia
  refine X.tupSw (xs := ["last", "kind"]) rfl (swOf hs rfl) (Y.tuple (S.consA rfl (S.callN rfl (S.glob (kOf hs rfl) rfl rfl (Stat.fn rfl)) (S.consA rfl (S.loc (kOf hs rfl) rfl rfl) (S.consA rfl (Y.bin (S.loc (kOf hs rfl) rfl rfl) Y.int BinOK.subI) (S.consA rfl (S.loc (kOf hs rfl) rfl rfl) Ys.nil))) (ArgsOk.cons rfl) (S.fnC rfl (skind_ok hT hc))) (S.consA rfl (S.callN rfl (S.glob (kOf hs rfl) rfl rfl (Stat.fn rfl)) (S.consA rfl (S.loc (kOf hs rfl) rfl rfl) (S.consA rfl (S.loc (kOf hs rfl) rfl rfl) (S.consA rfl (S.loc (kOf hs rfl) rfl rfl) Ys.nil))) (ArgsOk.cons rfl) (S.fnC rfl (skind_ok hT hc))) Ys.nil)) (by rw [sizeLine_eq]; exact Nat.le_of_ble_eq_true rfl)) (kAll hs rfl) rfl ?_
  have e1 : ((i : Int) - 1) = (i - 1 : Nat) := by apply Ar.f6 <;> assumption
  rw [e1]
  refine X.ifs (S.cmpB rfl (S.loc (kOf hs rfl) rfl rfl) (S.glob (kOf hs rfl) rfl rfl (Stat.tup rfl rfl)) (by first | exact CmpOK.inT rfl | with_reducible exact CmpOK.inLS | with_reducible exact CmpOK.inLI | ktr_rel)) (fun c1 => X.ret (Y.boolop (Y.or_cons (S.cmpV rfl (S.loc (kOf hs rfl) rfl rfl) Y.str (by first | with_reducible exact CmpOK.neS | with_reducible exact CmpOK.neI | with_reducible exact CmpOK.neB | with_reducible exact CmpOK.neLI0 | with_reducible exact CmpOK.neLI | with_reducible exact CmpOK.neO | ktr_rel)) (fun hq => (Y.bo_last (S.cmpV rfl (S.loc (kOf hs rfl) rfl rfl) Y.str (by first | with_reducible exact CmpOK.neS | with_reducible exact CmpOK.neI | with_reducible exact CmpOK.neB | with_reducible exact CmpOK.neLI0 | with_reducible exact CmpOK.neLI | with_reducible exact CmpOK.neO | ktr_rel)))))) (.inl (rb (iq c0' (ip c1))))) (fun c1 => X.nil ?_)
  refine X.ifs (S.cmpB rfl (S.loc (kOf hs rfl) rfl rfl) (S.glob (kOf hs rfl) rfl rfl (Stat.tup rfl rfl)) (by first | exact CmpOK.inT rfl | with_reducible exact CmpOK.inLS | with_reducible exact CmpOK.inLI | ktr_rel)) (fun c2 => X.ret Y.bool (.inl (rb (iq c0' (iq c1 (ip c2)))))) (fun c2 => X.nil ?_)
  refine X.assign (S.callN rfl (S.glob (kOf hs rfl) rfl rfl (Stat.fn rfl)) (S.consA rfl (S.loc (kOf hs rfl) rfl rfl) (S.consA rfl (S.callN rfl (S.glob (kOf hs rfl) rfl rfl (Stat.fn rfl)) (S.consA rfl (S.loc (kOf hs rfl) rfl rfl) (S.consA rfl (S.loc (kOf hs rfl) rfl rfl) (S.consA rfl (S.loc (kOf hs rfl) rfl rfl) Ys.nil))) (ArgsOk.cons rfl) (S.fnC rfl (base_ok hT hc ?_))) (S.consA rfl (S.loc (kOf hs rfl) rfl rfl) Ys.nil))) (ArgsOk.cons rfl) (S.fnC rfl (skind_ok hT hc))) (.inl (kOf hs rfl)) rfl ?_
  · exact Int.natCast_nonneg _
  refine X.ifs (YB.boolop (YB.or_cons (S.cmpB rfl (S.loc (kOf hs rfl) rfl rfl) (S.glob (kOf hs rfl) rfl rfl (Stat.tup rfl rfl)) (by first | exact CmpOK.ninT rfl | with_reducible exact CmpOK.ninLI | ktr_rel)) (fun hq => (YB.or_cons (YB.boolop (YB.and_cons (S.cmpB rfl (S.loc (kOf hs rfl) rfl rfl) Y.str (by first | with_reducible exact CmpOK.eqS | with_reducible exact CmpOK.eqI | with_reducible exact CmpOK.eqB | with_reducible exact CmpOK.eqLI | with_reducible exact CmpOK.eqLP | ktr_rel)) (fun hq => (YB.and_one (S.cmpB rfl (S.loc (kOf hs rfl) rfl rfl) Y.str (by first | with_reducible exact CmpOK.neS | with_reducible exact CmpOK.neI | with_reducible exact CmpOK.neB | with_reducible exact CmpOK.neLI0 | with_reducible exact CmpOK.neLI | with_reducible exact CmpOK.neO | ktr_rel)))))) (fun hq => (YB.or_one (S.ofB rfl (S.callN rfl (S.glob (kOf hs rfl) rfl rfl (Stat.fn rfl)) (S.consA rfl (S.loc (kOf hs rfl) rfl rfl) (S.consA rfl (S.loc (kOf hs rfl) rfl rfl) (S.consA rfl (S.loc (kOf hs rfl) rfl rfl) Ys.nil))) (ArgsOk.cons rfl) (S.fnC rfl (abbr_ok hT hc ?_)))))))))) (fun c3 => X.ret Y.bool (.inl (rb (iq c0' (iq c1 (iq c2 (ip c3))))))) (fun c3 => X.nil ?_)
  · apply Ar.pos0 <;> assumption
  obtain ⟨a, b, htl⟩ := tail_ok (w := w) (n := n) hT hc (i := i)
  refine X.tup (xs := ["term", "place", "is_spaced"]) rfl rfl rfl (S.callN rfl (S.glob (kOf hs rfl) rfl rfl (Stat.fn rfl)) (S.consA rfl (S.loc (kOf hs rfl) rfl rfl) (S.consA rfl (S.loc (kOf hs rfl) rfl rfl) (S.consA rfl (S.loc (kOf hs rfl) rfl rfl) Ys.nil))) (ArgsOk.cons rfl) (S.fnC rfl htl)) (.asg (.inl (kOf hs rfl)) (.asg (.inl (kOf hs rfl)) (.asg (.inl (kOf hs rfl)) .nil))) rfl ?_
  exact X.ret (Y.boolop (Y.or_cons (S.cmpV rfl (S.loc (kOf hs rfl) rfl rfl) Y.str (by first | with_reducible exact CmpOK.eqS | with_reducible exact CmpOK.eqI | with_reducible exact CmpOK.eqB | with_reducible exact CmpOK.eqLI | with_reducible exact CmpOK.eqLP | ktr_rel)) (fun hq => (Y.bo_last (Y.boolop (Y.and_cons (S.cmpV rfl (S.loc (kOf hs rfl) rfl rfl) Y.str (by first | with_reducible exact CmpOK.eqS | with_reducible exact CmpOK.eqI | with_reducible exact CmpOK.eqB | with_reducible exact CmpOK.eqLI | with_reducible exact CmpOK.eqLP | ktr_rel)) (fun hq => (Y.bo_last (Y.not (S.callN rfl (S.glob (kOf hs rfl) rfl rfl (Stat.fn rfl)) (S.consA rfl (S.loc (kOf hs rfl) rfl rfl) (S.consA rfl (S.loc (kOf hs rfl) rfl rfl) (S.consA rfl (S.loc (kOf hs rfl) rfl rfl) Ys.nil))) (ArgsOk.cons rfl) (S.fnC rfl (goes_ok hT hc hi)))))))))))) (.inl (rb (iq c0' (iq c1 (iq c2 (iq c3 rfl))))))
end
end Uni
namespace Uni
noncomputable abbrev Row := Str × Str × Bool
noncomputable def rowD (x : Row) : D := .tup [.str x.1, .str x.2.1, .bool x.2.2]
noncomputable def menuC : List Row := [("Other", "None", false), ("Other", "None", true), ("Other", "Consonant", false), ("Extend", "Extend", false), ("Extend", "Linker", false), ("Extend", "None", false), ("ZWJ", "Extend", false), ("Regional_Indicator", "None", false), ("Prepend", "None", false), ("SpacingMark", "None", false), ("L", "None", false), ("V", "None", false), ("T", "None", false), ("LV", "None", false), ("LVT", "None", false), ("CR", "None", false), ("LF", "None", false), ("Control", "None", false)]
noncomputable def menuW : List Str := ["Other", "ALetter", "Hebrew_Letter", "Numeric", "Katakana", "ExtendNumLet", "MidLetter", "MidNumLet", "MidNum", "Single_Quote", "Double_Quote", "Regional_Indicator", "Extend", "Format", "ZWJ", "WSegSpace", "CR", "LF", "Newline"]
noncomputable def menuS : List Str := ["Other", "ATerm", "STerm", "Close", "Sp", "SContinue", "Lower", "Upper", "OLetter", "Numeric", "Extend", "Format", "Sep", "CR", "LF"]
noncomputable def countW (x : Str) (l : List Str) : Nat := (l.takeWhile (· == x)).length
section
variable {w : World} {n : Nat} {T : Tb}
set_option maxHeartbeats 4000000
inductive StrsE : List Expr → List Str → Prop
  | nil : StrsE [] []
  | cons {x k p r ss} : StrsE r ss → StrsE (.Constant (.str x) k p :: r) (x :: ss)
theorem Ys.strs {env : Env} {r : Rho} {pos : Pos} {es : List Expr} {ss : List Str} (h : StrsE es ss) : Ys w n env r (spliced (backTo pos (starEach es env))) (ss.map .str) := by
  induction h with
  | nil => exact Ys.nil
  | cons _ ih => exact Ys.cons Y.str ih rfl
inductive RowsE : List Expr → List Row → Prop
  | nil : RowsE [] []
  | cons {x y z a b c d e f g h r ss} : RowsE r ss → RowsE (.Tuple [.Constant (.str x) a b, .Constant (.str y) c d, .Constant (.bool z) e f] g h :: r) ((x, y, z) :: ss)
theorem Ys.rows {env : Env} {r : Rho} {pos : Pos} {es : List Expr} {ss : List Row} (h : RowsE es ss) : Ys w n env r (spliced (backTo pos (starEach es env))) (ss.map rowD) := by
  induction h with
  | nil => exact Ys.nil
  | cons _ ih => exact Ys.cons (Y.tuple (S.consA rfl Y.str (S.consA rfl Y.str (S.consA rfl Y.bool Ys.nil))) (by rw [sizeLine_eq]; exact Nat.le_of_ble_eq_true rfl)) ih rfl
theorem rows_call {f : Addr} {name qual : Str} {params : Arguments} {es : List Expr} {pos p2 : Pos} {scope : Scope} {dV kV doc pm cdv ct oc : Value} {an od : Option Addr} {osl : Array (Option Value)} {ss : List Row}
    (hK : (KK w).lookup f = some ⟨oc, od, .func (fnOf name qual params [.Return (some (.List es pos)) p2] scope dV kV doc pm an cdv ct), osl⟩) (hcode : codeIn (KK w) cdv qual = true) (hok : okDef scope [] = true)
    (hbind : bindArgs (fnOf name qual params [.Return (some (.List es pos)) p2] scope dV kV doc pm an cdv ct) ⟨[], []⟩ = pure []) (e : RowsE es ss) (hl : ss.length ≤ sizeLine) : CallOK w (n + 1) f [] (.lst (ss.map rowD)) :=
  call_fn (ps := []) hK hcode hok (fun vs hv => by cases vs with | nil => exact hbind | cons _ _ => cases hv) (fun env hs => X.ret (Y.list (Ys.rows e) (by rw [List.length_map]; exact hl)) (.inl rfl))
theorem strs_call {f : Addr} {name qual : Str} {params : Arguments} {es : List Expr} {pos p2 : Pos} {scope : Scope} {dV kV doc pm cdv ct oc : Value} {an od : Option Addr} {osl : Array (Option Value)} {ss : List Str}
    (hK : (KK w).lookup f = some ⟨oc, od, .func (fnOf name qual params [.Return (some (.List es pos)) p2] scope dV kV doc pm an cdv ct), osl⟩) (hcode : codeIn (KK w) cdv qual = true) (hok : okDef scope [] = true)
    (hbind : bindArgs (fnOf name qual params [.Return (some (.List es pos)) p2] scope dV kV doc pm an cdv ct) ⟨[], []⟩ = pure []) (e : StrsE es ss) (hl : ss.length ≤ sizeLine) : CallOK w (n + 1) f [] (.lst (ss.map .str)) :=
  call_fn (ps := []) hK hcode hok (fun vs hv => by cases vs with | nil => exact hbind | cons _ _ => cases hv) (fun env hs => X.ret (Y.list (Ys.strs e) (by rw [List.length_map]; exact hl)) (.inl rfl))
theorem lclusters_ok : CallOK w (n + 1) 449 [] (.lst (menuC.map rowD)) := rows_call rfl rfl rfl rfl (by repeat constructor) (by rw [sizeLine_eq]; exact Nat.le_of_ble_eq_true rfl)
theorem lwords_ok : CallOK w (n + 1) 456 [] (.lst (menuW.map .str)) := strs_call rfl rfl rfl rfl (by repeat constructor) (by rw [sizeLine_eq]; exact Nat.le_of_ble_eq_true rfl)
theorem lsents_ok : CallOK w (n + 1) 463 [] (.lst (menuS.map .str)) := strs_call rfl rfl rfl rfl (by repeat constructor) (by rw [sizeLine_eq]; exact Nat.le_of_ble_eq_true rfl)
theorem lcount_ok {l : List Str} {x : Str} (hl : l.length ≤ 1000) : CallOK w (n + 1) 482 [.lst (l.map .str), .str x] (.int (countW x l)) := by
  refine call_fn (ps := ["some", "word"]) rfl rfl rfl (fun vs hl => ?_) (fun env hs => ?_)
  · obtain ⟨a, b, rfl⟩ := L2 hl; rfl
  have hsl : l.length ≤ sizeLine := by rw [sizeLine_eq]; apply Ar.sz <;> assumption
  refine X.assign Y.int (.inl (kOf hs rfl)) rfl ?_
  have hle := takeWhile_le (fun c => c == x) l
  refine X.whileI (fun j : Nat => [("some", .lst (l.map .str)), ("word", .str x), ("many", .int j)])
    (fun m j => j ≤ countW x l ∧ m = l.length - j) l.length 0 ⟨Nat.zero_le _, rfl⟩ ⟨rfl, rfl, rfl, trivial⟩ ?_
  rintro m j ⟨g1, hm⟩
  have hj : j ≤ l.length := Nat.le_trans g1 hle
  refine ⟨_, (YB.boolop (YB.and_cons (S.cmpB rfl (S.loc (kOf hs rfl) rfl rfl) (S.lenM (kOf hs rfl) rfl rfl (S.loc (kOf hs rfl) rfl rfl) ?_) CmpOK.ltI) (fun hq => (YB.and_one (S.cmpB rfl (S.item (S.loc (kOf hs rfl) rfl rfl) (S.loc (kOf hs rfl) rfl rfl) (ItemIs.map ?_) (fun _ _ => rfl)) (S.loc (kOf hs rfl) rfl rfl) (by first | with_reducible exact CmpOK.eqS | with_reducible exact CmpOK.eqI | with_reducible exact CmpOK.eqB | with_reducible exact CmpOK.eqLI | with_reducible exact CmpOK.eqLP | ktr_rel)))))), fun hb => ?_, fun hb => ?_⟩
  · exact hsl
  · have := of_decide_eq_true hq; apply Ar.k2 <;> assumption
  · rw [Bool.and_eq_true, decide_eq_true_eq, Int.toNat_natCast] at hb
    have st := (takeWhile_step (fun c => c == x) l j g1 (by lia)).1 hb.2
    refine X.assign (Y.bin (S.loc (kOf hs rfl) rfl rfl) Y.int (by first | with_reducible exact BinOK.addI | ktr_rel)) (.inl (kOf hs rfl)) rfl ?_
    exact X.nil ⟨l.length - (j + 1), j + 1, by apply Ar.decA <;> assumption, ⟨st, rfl⟩, rfl, rfl, rfl, trivial⟩
  · refine X.ret (S.loc (kOf hs rfl) rfl rfl) (.inl ?_)
    rw [Bool.and_eq_false_iff, decide_eq_false_iff_not, Int.toNat_natCast] at hb
    have : j = countW x l := by
      by_cases hjk : j < l.length
      · exact (takeWhile_step (fun c => c == x) l j g1 hjk).2 (hb.resolve_left (by apply Ar.nn <;> assumption))
      · have : countW x l ≤ l.length := hle
        lia
    rw [this]
end
end Uni
namespace Uni
noncomputable abbrev LCE : List Str := ["Control", "CR", "LF"]
noncomputable def linksR (rows : List Row) (i : Nat) : List Str := ((rows.take i).map (·.2.1)).reverse
noncomputable def backR (rows : List Row) (i : Nat) : List Str := ((rows.take i).map (·.1)).reverse
noncomputable def lawC (rows : List Row) (i : Nat) : Bool :=
  if (rows.getD (i - 1) default).1 == "CR" && (rows.getD i default).1 == "LF" then false
  else if isIn LCE (rows.getD (i - 1) default).1 || isIn LCE (rows.getD i default).1 then true
  else if ((rows.getD (i - 1) default).1 == "L" && isIn ["L", "V", "LV", "LVT"] (rows.getD i default).1) || (isIn ["LV", "V"] (rows.getD (i - 1) default).1 && isIn ["V", "T"] (rows.getD i default).1) then false
  else if isIn ["LVT", "T"] (rows.getD (i - 1) default).1 && (rows.getD i default).1 == "T" then false
  else if isIn ["Extend", "ZWJ", "SpacingMark"] (rows.getD i default).1 || (rows.getD (i - 1) default).1 == "Prepend" then false
  else if (rows.getD i default).2.1 == "Consonant" && (decide (((linksR rows i).takeWhile (isIn ["Linker", "Extend"] ·)).length < i) &&
      ((linksR rows i).getD ((linksR rows i).takeWhile (isIn ["Linker", "Extend"] ·)).length default == "Consonant" && isIn ((linksR rows i).take ((linksR rows i).takeWhile (isIn ["Linker", "Extend"] ·)).length) "Linker")) then false
  else if ((rows.getD (i - 1) default).1 == "ZWJ" && (rows.getD i default).2.2) && (decide (1 + countW "Extend" ((backR rows i).drop 1) < i) && (rows.getD (i - 1 - (1 + countW "Extend" ((backR rows i).drop 1))) default).2.2) then false
  else !((rows.getD i default).1 == "Regional_Indicator" && countW (rows.getD i default).1 (backR rows i) % 2 == 1)
theorem ia {α : Type} {c1 c2 : Bool} {a b x : α} (h1 : c1 = true) (e : x = (if c2 then a else b)) : x = (if c1 && c2 then a else b) := by rw [h1, Bool.true_and, e]
theorem ian {α : Type} {c1 c2 : Bool} {a b x : α} (h1 : c1 = false) (e : x = b) : x = (if c1 && c2 then a else b) := by rw [h1, Bool.false_and]; exact e
section
variable {w : World} {n : Nat} {T : Tb}
set_option maxHeartbeats 4000000
theorem lawC_ok {rows : List Row} {i : Nat} (h1 : 1 ≤ i) (hi : i < rows.length) (hz : rows.length ≤ 1000) : CallOK w (n + 2) 487 [.lst (rows.map rowD), .int i] (.bool (lawC rows i)) := by
  refine call_fn (ps := ["rows", "i"]) rfl rfl rfl (fun vs hl => ?_) (fun env hs => ?_)
  · obtain ⟨a, b, rfl⟩ := L2 hl; rfl
  have hsl : rows.length ≤ sizeLine := by rw [sizeLine_eq]; apply Ar.sz <;> assumption
  have e1 : ((i : Int) - 1).toNat = i - 1 := by apply Ar.tnS <;> assumption
  have hlb : (backR rows i).length = i := by simp [backR]; apply Ar.mn <;> assumption
  have hll : (linksR rows i).length = i := by simp [linksR]; apply Ar.mn <;> assumption
  refine X.tupSw (xs := ["a", "b"]) rfl (swOf hs rfl) (Y.tuple (S.consA rfl (S.item (S.item (S.loc (kOf hs rfl) rfl rfl) (Y.bin (S.loc (kOf hs rfl) rfl rfl) Y.int BinOK.subI) (ItemIs.map ?_) (fun _ _ => rfl)) Y.int (ItemIs.tupC rfl (by decide)) (fun _ _ => rfl)) (S.consA rfl (S.item (S.item (S.loc (kOf hs rfl) rfl rfl) (S.loc (kOf hs rfl) rfl rfl) (ItemIs.map ?_) (fun _ _ => rfl)) Y.int (ItemIs.tupC rfl (by decide)) (fun _ _ => rfl)) Ys.nil)) (by rw [sizeLine_eq]; exact Nat.le_of_ble_eq_true rfl)) (kAll hs rfl) rfl ?_
  · apply Ar.t1 <;> assumption
  · apply Ar.t3 <;> assumption
  refine X.assign (d := .lst ((backR rows i).map .str)) ?_ (.inl (kOf hs rfl)) rfl ?_
  · refine S.revM (Y.compG0 (its := rows.take i) (g := rowD) D.str (fun a : Row => a.1) hs ?_ rfl (fun _ => rfl) (by rw [List.length_take]; apply Ar.j5 <;> assumption) (fun a ha env1 hs1 => ?_)) (Y.neg Y.int) (by rw [List.length_map, List.length_take]; apply Ar.j5 <;> assumption)
    · refine S.toM (k := i) (S.loc (kOf hs rfl) rfl rfl) (S.loc (kOf hs rfl) rfl rfl) ⟨Int.natCast_nonneg _, hsl⟩
    · exact (S.item (S.loc (kOf hs1 rfl) rfl rfl) Y.int (ItemIs.tupC rfl (by decide)) (fun _ _ => rfl))
  rw [e1, Int.toNat_natCast]
  refine X.ifs (YB.boolop (YB.and_cons (S.cmpB rfl (S.loc (kOf hs rfl) rfl rfl) Y.str (by first | with_reducible exact CmpOK.eqS | with_reducible exact CmpOK.eqI | with_reducible exact CmpOK.eqB | with_reducible exact CmpOK.eqLI | with_reducible exact CmpOK.eqLP | ktr_rel)) (fun hq => (YB.and_one (S.cmpB rfl (S.loc (kOf hs rfl) rfl rfl) Y.str (by first | with_reducible exact CmpOK.eqS | with_reducible exact CmpOK.eqI | with_reducible exact CmpOK.eqB | with_reducible exact CmpOK.eqLI | with_reducible exact CmpOK.eqLP | ktr_rel)))))) (fun c1 => X.ret Y.bool (.inl (rb (ip c1)))) (fun c1 => X.nil ?_)
  refine X.ifs (YB.boolop (YB.or_cons (S.cmpB rfl (S.loc (kOf hs rfl) rfl rfl) (Y.tuple (S.consA rfl Y.str (S.consA rfl Y.str (S.consA rfl Y.str Ys.nil))) (by rw [sizeLine_eq]; exact Nat.le_of_ble_eq_true rfl)) (by first | exact CmpOK.inT rfl | with_reducible exact CmpOK.inLS | with_reducible exact CmpOK.inLI | ktr_rel)) (fun hq => (YB.or_one (S.cmpB rfl (S.loc (kOf hs rfl) rfl rfl) (Y.tuple (S.consA rfl Y.str (S.consA rfl Y.str (S.consA rfl Y.str Ys.nil))) (by rw [sizeLine_eq]; exact Nat.le_of_ble_eq_true rfl)) (by first | exact CmpOK.inT rfl | with_reducible exact CmpOK.inLS | with_reducible exact CmpOK.inLI | ktr_rel)))))) (fun c2 => X.ret Y.bool (.inl (rb (iq c1 (ip c2))))) (fun c2 => X.nil ?_)
  refine X.ifs (YB.boolop (YB.or_cons (YB.boolop (YB.and_cons (S.cmpB rfl (S.loc (kOf hs rfl) rfl rfl) Y.str (by first | with_reducible exact CmpOK.eqS | with_reducible exact CmpOK.eqI | with_reducible exact CmpOK.eqB | with_reducible exact CmpOK.eqLI | with_reducible exact CmpOK.eqLP | ktr_rel)) (fun hq => (YB.and_one (S.cmpB rfl (S.loc (kOf hs rfl) rfl rfl) (Y.tuple (S.consA rfl Y.str (S.consA rfl Y.str (S.consA rfl Y.str (S.consA rfl Y.str Ys.nil)))) (by rw [sizeLine_eq]; exact Nat.le_of_ble_eq_true rfl)) (by first | exact CmpOK.inT rfl | with_reducible exact CmpOK.inLS | with_reducible exact CmpOK.inLI | ktr_rel)))))) (fun hq => (YB.or_one (YB.boolop (YB.and_cons (S.cmpB rfl (S.loc (kOf hs rfl) rfl rfl) (Y.tuple (S.consA rfl Y.str (S.consA rfl Y.str Ys.nil)) (by rw [sizeLine_eq]; exact Nat.le_of_ble_eq_true rfl)) (by first | exact CmpOK.inT rfl | with_reducible exact CmpOK.inLS | with_reducible exact CmpOK.inLI | ktr_rel)) (fun hq => (YB.and_one (S.cmpB rfl (S.loc (kOf hs rfl) rfl rfl) (Y.tuple (S.consA rfl Y.str (S.consA rfl Y.str Ys.nil)) (by rw [sizeLine_eq]; exact Nat.le_of_ble_eq_true rfl)) (by first | exact CmpOK.inT rfl | with_reducible exact CmpOK.inLS | with_reducible exact CmpOK.inLI | ktr_rel)))))))))) (fun c3 => X.ret Y.bool (.inl (rb (iq c1 (iq c2 (ip c3)))))) (fun c3 => X.nil ?_)
  refine X.ifs (YB.boolop (YB.and_cons (S.cmpB rfl (S.loc (kOf hs rfl) rfl rfl) (Y.tuple (S.consA rfl Y.str (S.consA rfl Y.str Ys.nil)) (by rw [sizeLine_eq]; exact Nat.le_of_ble_eq_true rfl)) (by first | exact CmpOK.inT rfl | with_reducible exact CmpOK.inLS | with_reducible exact CmpOK.inLI | ktr_rel)) (fun hq => (YB.and_one (S.cmpB rfl (S.loc (kOf hs rfl) rfl rfl) Y.str (by first | with_reducible exact CmpOK.eqS | with_reducible exact CmpOK.eqI | with_reducible exact CmpOK.eqB | with_reducible exact CmpOK.eqLI | with_reducible exact CmpOK.eqLP | ktr_rel)))))) (fun c4 => X.ret Y.bool (.inl (rb (iq c1 (iq c2 (iq c3 (ip c4))))))) (fun c4 => X.nil ?_)
  refine X.ifs (YB.boolop (YB.or_cons (S.cmpB rfl (S.loc (kOf hs rfl) rfl rfl) (Y.tuple (S.consA rfl Y.str (S.consA rfl Y.str (S.consA rfl Y.str Ys.nil))) (by rw [sizeLine_eq]; exact Nat.le_of_ble_eq_true rfl)) (by first | exact CmpOK.inT rfl | with_reducible exact CmpOK.inLS | with_reducible exact CmpOK.inLI | ktr_rel)) (fun hq => (YB.or_one (S.cmpB rfl (S.loc (kOf hs rfl) rfl rfl) Y.str (by first | with_reducible exact CmpOK.eqS | with_reducible exact CmpOK.eqI | with_reducible exact CmpOK.eqB | with_reducible exact CmpOK.eqLI | with_reducible exact CmpOK.eqLP | ktr_rel)))))) (fun c5 => X.ret Y.bool (.inl (rb (iq c1 (iq c2 (iq c3 (iq c4 (ip c5)))))))) (fun c5 => X.nil ?_)
  refine X.assign (d := .lst ((linksR rows i).map .str)) ?_ (.inl (kOf hs rfl)) rfl ?_
  · refine S.revM (Y.compG0 (its := rows.take i) (g := rowD) D.str (fun a : Row => a.2.1) hs ?_ rfl (fun _ => rfl) (by rw [List.length_take]; apply Ar.j5 <;> assumption) (fun a ha env1 hs1 => ?_)) (Y.neg Y.int) (by rw [List.length_map, List.length_take]; apply Ar.j5 <;> assumption)
    · refine S.toM (k := i) (S.loc (kOf hs rfl) rfl rfl) (S.loc (kOf hs rfl) rfl rfl) ⟨Int.natCast_nonneg _, hsl⟩
    · exact (S.item (S.loc (kOf hs1 rfl) rfl rfl) Y.int (ItemIs.tupC rfl (by decide)) (fun _ _ => rfl))
  refine X.assign Y.int (.inl (kOf hs rfl)) rfl ?_
  have hlk := takeWhile_le (isIn ["Linker", "Extend"] ·) (linksR rows i)
  refine X.whileI (fun j : Nat => [("rows", .lst (rows.map rowD)), ("i", .int i), ("a", .str (rows.getD (i - 1) default).1), ("b", .str (rows.getD i default).1), ("back", .lst ((backR rows i).map .str)), ("links", .lst ((linksR rows i).map .str)), ("k", .int j)])
    (fun m j => j ≤ ((linksR rows i).takeWhile (isIn ["Linker", "Extend"] ·)).length ∧ m = i - j) i 0 ⟨Nat.zero_le _, rfl⟩ ⟨rfl, rfl, rfl, rfl, rfl, rfl, rfl, trivial⟩ ?_
  rintro m j ⟨g1, hm⟩
  refine ⟨_, (YB.boolop (YB.and_cons (S.cmpB rfl (S.loc (kOf hs rfl) rfl rfl) (S.loc (kOf hs rfl) rfl rfl) CmpOK.ltI) (fun hq => (YB.and_one (S.cmpB rfl (S.item (S.loc (kOf hs rfl) rfl rfl) (S.loc (kOf hs rfl) rfl rfl) (ItemIs.map ?_) (fun _ _ => rfl)) (Y.tuple (S.consA rfl Y.str (S.consA rfl Y.str Ys.nil)) (by rw [sizeLine_eq]; exact Nat.le_of_ble_eq_true rfl)) (by first | exact CmpOK.inT rfl | with_reducible exact CmpOK.inLS | with_reducible exact CmpOK.inLI | ktr_rel)))))), fun hb => ?_, fun hb => ?_⟩
  · have := of_decide_eq_true hq; rw [sizeLine_eq]; lia
  · rw [Bool.and_eq_true, decide_eq_true_eq, Int.toNat_natCast] at hb
    have st := (takeWhile_step (isIn ["Linker", "Extend"] ·) (linksR rows i) j g1 (by lia)).1 hb.2
    refine X.assign (Y.bin (S.loc (kOf hs rfl) rfl rfl) Y.int (by first | with_reducible exact BinOK.addI | ktr_rel)) (.inl (kOf hs rfl)) rfl ?_
    exact X.nil ⟨i - (j + 1), j + 1, by apply Ar.decA <;> assumption, ⟨st, rfl⟩, rfl, rfl, rfl, rfl, rfl, rfl, rfl, trivial⟩
  have hj : j = ((linksR rows i).takeWhile (isIn ["Linker", "Extend"] ·)).length := by
    rw [Bool.and_eq_false_iff, decide_eq_false_iff_not, Int.toNat_natCast] at hb
    by_cases hjk : j < i
    · exact (takeWhile_step (isIn ["Linker", "Extend"] ·) (linksR rows i) j g1 (by apply Ar.le <;> assumption)).2 (hb.resolve_left (by apply Ar.nn <;> assumption))
    · lia
  subst hj
  refine X.ifs (YB.boolop (YB.and_cons (S.cmpB rfl (S.item (S.item (S.loc (kOf hs rfl) rfl rfl) (S.loc (kOf hs rfl) rfl rfl) (ItemIs.map ?_) (fun _ _ => rfl)) Y.int (ItemIs.tupC rfl (by decide)) (fun _ _ => rfl)) Y.str (by first | with_reducible exact CmpOK.eqS | with_reducible exact CmpOK.eqI | with_reducible exact CmpOK.eqB | with_reducible exact CmpOK.eqLI | with_reducible exact CmpOK.eqLP | ktr_rel)) (fun hq => (YB.and_cons (S.cmpB rfl (S.loc (kOf hs rfl) rfl rfl) (S.loc (kOf hs rfl) rfl rfl) CmpOK.ltI) (fun hq => (YB.and_cons (S.cmpB rfl (S.item (S.loc (kOf hs rfl) rfl rfl) (S.loc (kOf hs rfl) rfl rfl) (ItemIs.map ?_) (fun _ _ => rfl)) Y.str (by first | with_reducible exact CmpOK.eqS | with_reducible exact CmpOK.eqI | with_reducible exact CmpOK.eqB | with_reducible exact CmpOK.eqLI | with_reducible exact CmpOK.eqLP | ktr_rel)) (fun hq => (YB.and_one (S.cmpB rfl Y.str (S.toM (S.loc (kOf hs rfl) rfl rfl) (S.loc (kOf hs rfl) rfl rfl) ?_) (by first | exact CmpOK.inT rfl | with_reducible exact CmpOK.inLS | with_reducible exact CmpOK.inLI | ktr_rel)))))))))) (fun c6 => ?_) (fun c6 => X.nil ?_)
  · apply Ar.t3 <;> assumption
  · have := of_decide_eq_true hq; rw [sizeLine_eq]; lia
  · exact ⟨Int.natCast_nonneg _, by rw [sizeLine_eq]; lia⟩
  · simp only [Int.toNat_natCast, Int.ofNat_lt] at c6
    exact X.ret Y.bool (.inl (rb (iq c1 (iq c2 (iq c3 (iq c4 (iq c5 (ip c6))))))))
  simp only [Int.toNat_natCast, Int.ofNat_lt] at c6
  have efl : ((((countW (rows.getD i default).1 (backR rows i) : Nat) : Int).fmod 2) == 1) = (countW (rows.getD i default).1 (backR rows i) % 2 == 1) := by
    rw [Int.fmod_eq_emod_of_nonneg _ (by decide), Bool.eq_iff_iff, beq_iff_eq, beq_iff_eq]; exact Ar.b3
  refine X.ifs (YB.boolop (YB.and_cons (S.cmpB rfl (S.loc (kOf hs rfl) rfl rfl) Y.str (by first | with_reducible exact CmpOK.eqS | with_reducible exact CmpOK.eqI | with_reducible exact CmpOK.eqB | with_reducible exact CmpOK.eqLI | with_reducible exact CmpOK.eqLP | ktr_rel)) (fun hq => (YB.and_one (S.ofB rfl (S.item (S.item (S.loc (kOf hs rfl) rfl rfl) (S.loc (kOf hs rfl) rfl rfl) (ItemIs.map ?_) (fun _ _ => rfl)) Y.int (ItemIs.tupC rfl (by decide)) (fun _ _ => rfl))))))) (fun c7 => ?_) (fun c7 => X.nil ?_)
  · apply Ar.t3 <;> assumption
  · rw [Int.toNat_natCast] at c7
    refine X.assign (Y.bin Y.int (S.callN rfl (S.glob (kOf hs rfl) rfl rfl (Stat.fn rfl)) (S.consA rfl (S.fromM (S.loc (kOf hs rfl) rfl rfl) Y.int ?_) (S.consA rfl Y.str Ys.nil)) (ArgsOk.cons rfl) (S.fnC rfl (lcount_ok ?_))) (by first | with_reducible exact BinOK.addI | ktr_rel)) (.inl (kOf hs rfl)) rfl ?_
    · exact ⟨by decide, by rw [hlb, sizeLine_eq]; lia⟩
    · rw [List.length_drop]; apply Ar.y1 <;> assumption
    have e2 : ((i : Int) - 1 - (1 + (countW "Extend" ((backR rows i).drop 1) : Nat))).toNat = i - 1 - (1 + countW "Extend" ((backR rows i).drop 1)) := by apply Ar.tSp <;> assumption
    have e3 : decide ((1 : Int) + (countW "Extend" ((backR rows i).drop 1) : Nat) < (i : Int)) = decide (1 + countW "Extend" ((backR rows i).drop 1) < i) := by rw [decide_eq_decide]; exact Ar.i1
    refine X.ifs (b := decide ((1 : Int) + (countW "Extend" ((backR rows i).drop 1) : Nat) < (i : Int)) && (rows.getD ((i : Int) - 1 - (1 + (countW "Extend" ((backR rows i).drop 1) : Nat))).toNat default).2.2) ?_ (fun c8 => ?_) (fun c8 => X.nil (X.nil ?_))
    · refine (YB.boolop (YB.and_cons (S.cmpB rfl (S.loc (kOf hs rfl) rfl rfl) (S.loc (kOf hs rfl) rfl rfl) CmpOK.ltI) (fun hq => (YB.and_one (S.ofB rfl (S.item (S.item (S.loc (kOf hs rfl) rfl rfl) (Y.bin (Y.bin (S.loc (kOf hs rfl) rfl rfl) Y.int BinOK.subI) (S.loc (kOf hs rfl) rfl rfl) BinOK.subI) (ItemIs.map ?_) (fun _ _ => rfl)) Y.int (ItemIs.tupC rfl (by decide)) (fun _ _ => rfl)))))))
      have h3 : 1 + ((countW "Extend" ((backR rows i).drop 1) : Nat) : Int) < i := of_decide_eq_true hq
      show 0 ≤ (i : Int) - 1 - (1 + ((countW "Extend" ((backR rows i).drop 1) : Nat) : Int)) ∧ (i : Int) - 1 - (1 + ((countW "Extend" ((backR rows i).drop 1) : Nat) : Int)) < rows.length ∧ rows.length ≤ sizeLine
      lia
    · rw [e2, e3] at c8
      exact X.ret Y.bool (.inl (rb (iq c1 (iq c2 (iq c3 (iq c4 (iq c5 (iq c6 (ia c7 (ip c8))))))))))
    · rw [e2, e3] at c8
      refine X.ret (Y.not (Y.boolop (Y.and_cons (S.cmpV rfl (S.loc (kOf hs rfl) rfl rfl) Y.str (by first | with_reducible exact CmpOK.eqS | with_reducible exact CmpOK.eqI | with_reducible exact CmpOK.eqB | with_reducible exact CmpOK.eqLI | with_reducible exact CmpOK.eqLP | ktr_rel)) (fun hq => (Y.bo_last (S.cmpV rfl (Y.bin (S.callN rfl (S.glob (kOf hs rfl) rfl rfl (Stat.fn rfl)) (S.consA rfl (S.loc (kOf hs rfl) rfl rfl) (S.consA rfl (S.loc (kOf hs rfl) rfl rfl) Ys.nil)) (ArgsOk.cons rfl) (S.fnC rfl (lcount_ok ?_))) Y.int (BinOK.modI (by decide))) Y.int (by first | with_reducible exact CmpOK.eqS | with_reducible exact CmpOK.eqI | with_reducible exact CmpOK.eqB | with_reducible exact CmpOK.eqLI | with_reducible exact CmpOK.eqLP | ktr_rel))))))) (.inl (rb (iq c1 (iq c2 (iq c3 (iq c4 (iq c5 (iq c6 (ia c7 (iq c8 ?_)))))))))) 
      · rw [hlb]; lia
      · rw [efl]
  · rw [Int.toNat_natCast] at c7
    refine X.ret (Y.not (Y.boolop (Y.and_cons (S.cmpV rfl (S.loc (kOf hs rfl) rfl rfl) Y.str (by first | with_reducible exact CmpOK.eqS | with_reducible exact CmpOK.eqI | with_reducible exact CmpOK.eqB | with_reducible exact CmpOK.eqLI | with_reducible exact CmpOK.eqLP | ktr_rel)) (fun hq => (Y.bo_last (S.cmpV rfl (Y.bin (S.callN rfl (S.glob (kOf hs rfl) rfl rfl (Stat.fn rfl)) (S.consA rfl (S.loc (kOf hs rfl) rfl rfl) (S.consA rfl (S.loc (kOf hs rfl) rfl rfl) Ys.nil)) (ArgsOk.cons rfl) (S.fnC rfl (lcount_ok ?_))) Y.int (BinOK.modI (by decide))) Y.int (by first | with_reducible exact CmpOK.eqS | with_reducible exact CmpOK.eqI | with_reducible exact CmpOK.eqB | with_reducible exact CmpOK.eqLI | with_reducible exact CmpOK.eqLP | ktr_rel))))))) (.inl (rb (iq c1 (iq c2 (iq c3 (iq c4 (iq c5 (iq c6 (ian c7 ?_))))))))) 
    · rw [hlb]; lia
    · rw [efl]
end
end Uni
namespace Uni
theorem dflt : (default : Str) = "" := rfl
section
variable {w : World} {n : Nat} {T : Tb}
set_option maxHeartbeats 4000000
theorem kept_ok {hang ends W : List Str} (hz : W.length ≤ 1000) : CallOK w (n + 1) 492 [.lst (W.map .str), .tup (hang.map .str), .tup (ends.map .str)] (.lst (((List.range W.length).filter (keptK hang ends W)).map fun i : Nat => .int i)) := by
  refine call_fn (ps := ["classes", "hang", "ends"]) rfl rfl rfl (fun vs hl => ?_) (fun env hs => ?_)
  · obtain ⟨a, b, c, rfl⟩ := L3 hl; rfl
  have hsl : W.length ≤ sizeLine := by rw [sizeLine_eq]; apply Ar.sz <;> assumption
  have hlm : (W.map D.str).length = W.length := List.length_map _
  rw [← hlm]
  refine X.ret (Y.comp (p := keptK hang ends W) (f := fun i : Nat => .int i) hs (Src.enum (kOf hs rfl) rfl rfl (S.cell (kOf hs rfl) rfl rfl)) rfl (fun _ => rfl) (by rw [List.length_map]; exact hsl) (fun i hi env1 hs1 => YT.one ?_) (fun i hi hp env1 hs1 => ?_)) (.inl rfl)
  · rw [List.length_map] at hi
    rw [getD_map_lt hi, dflt]
    have e : keptK hang ends W i = (!isIn hang (W.getD i "") || ((i : Int) == 0 || isIn ends (W.getD ((i : Int) - 1).toNat default))) := by
      have e1 : ((i : Int) - 1).toNat = i - 1 := by apply Ar.tnS <;> assumption
      have e2 : ((i : Int) == 0) = (i == 0) := by rw [Bool.eq_iff_iff, beq_iff_eq, beq_iff_eq]; exact Ar.iZ
      rw [e1, e2, dflt, ← Bool.or_assoc]; rfl
    rw [e]
    refine YB.boolop (YB.or_cons (S.cmpB rfl (S.loc (kOf hs1 rfl) rfl rfl) (S.cell (kOf hs1 rfl) rfl rfl) CmpOK.ninTS) (fun hq => YB.or_cons (S.cmpB rfl (S.loc (kOf hs1 rfl) rfl rfl) Y.int CmpOK.eqI) (fun hq2 => YB.or_one (S.cmpB rfl (S.item (S.cell (kOf hs1 rfl) rfl rfl) (Y.bin (S.loc (kOf hs1 rfl) rfl rfl) Y.int BinOK.subI) (ItemIs.map ?_) (fun _ _ => rfl)) (S.cell (kOf hs1 rfl) rfl rfl) CmpOK.inTS))))
    have := beq_eq_false_iff_ne.mp hq2
    apply Ar.q7 <;> assumption
  · exact S.loc (kOf hs1 rfl) rfl rfl
noncomputable abbrev em : List Str := [""]
noncomputable def keptI (hang ends W : List Str) : List Nat := (List.range W.length).filter (keptK hang ends W)
noncomputable def leftL (hang ends W V : List Str) (i : Nat) : List Str := (((keptI hang ends W).filter (fun j => decide (j < i))).map fun j => V.getD j "").reverse
noncomputable def rightL (hang ends W V : List Str) (i : Nat) : List Str := ((keptI hang ends W).filter (fun j => decide (i ≤ j))).map fun j => V.getD j ""
theorem keptI_lt {hang ends W : List Str} {j : Nat} (h : j ∈ keptI hang ends W) : j < W.length := by
  have := (List.mem_filter.mp h).1
  simpa using this
theorem keptI_len (hang ends W : List Str) : (keptI hang ends W).length ≤ W.length := by
  have := List.length_filter_le (keptK hang ends W) (List.range W.length)
  rwa [List.length_range] at this
theorem leftL_len (hang ends W V : List Str) (i : Nat) : (leftL hang ends W V i).length ≤ W.length := by
  unfold leftL
  rw [List.length_reverse, List.length_map]
  exact Nat.le_trans (List.length_filter_le _ _) (keptI_len _ _ _)
theorem rightL_len (hang ends W V : List Str) (i : Nat) : (rightL hang ends W V i).length ≤ W.length := by
  unfold rightL
  rw [List.length_map]
  exact Nat.le_trans (List.length_filter_le _ _) (keptI_len _ _ _)
noncomputable abbrev LWL : List Str := ["ALetter", "Hebrew_Letter"]
noncomputable abbrev LWM : List Str := ["MidLetter", "MidNumLet", "Single_Quote"]
noncomputable abbrev LWN : List Str := ["MidNum", "MidNumLet", "Single_Quote"]
noncomputable abbrev LWS : List Str := ["ALetter", "Hebrew_Letter", "Numeric", "Katakana"]
noncomputable def lawWB (a b : Str) (pic : Bool) (x far y beyond : Str) (odd : Bool) : Bool :=
  if a == "CR" && b == "LF" then false
  else if isIn WEnds a || isIn WEnds b then true
  else if (a == "ZWJ" && pic) || ((a == "WSegSpace" && b == "WSegSpace") || isIn WSkip b) then false
  else if isIn LWL x && (isIn LWL y || (y == "Numeric" || (isIn LWM y && isIn LWL beyond))) then false
  else if isIn LWL y && ((isIn LWM x && isIn LWL far) || x == "Numeric") then false
  else if x == "Hebrew_Letter" && (y == "Single_Quote" || (y == "Double_Quote" && beyond == "Hebrew_Letter")) then false
  else if y == "Hebrew_Letter" && (x == "Double_Quote" && far == "Hebrew_Letter") then false
  else if x == "Numeric" && (y == "Numeric" || (isIn LWN y && beyond == "Numeric")) then false
  else if (y == "Numeric" && (isIn LWN x && far == "Numeric")) || (x == "Katakana" && y == "Katakana") then false
  else if (y == "ExtendNumLet" && (isIn LWS x || x == y)) || (x == "ExtendNumLet" && isIn LWS y) then false
  else !(y == "Regional_Indicator" && odd)
noncomputable def lawW (W : List Str) (rows : List Row) (i : Nat) : Bool :=
  let l := leftL WSkip WEnds W W i ++ em
  let r := rightL WSkip WEnds W W i ++ em
  lawWB (W.getD (i - 1) "") (W.getD i "") (rows.getD i default).2.2 (l.getD 0 "") (l.getD 1 "") (r.getD 0 "") (r.getD 1 "") (countW (r.getD 0 "") l % 2 == 1)
theorem keptI_mem0 (hang ends W : List Str) (h : 0 < W.length) : 0 ∈ keptI hang ends W := List.mem_filter.mpr ⟨by simpa using h, by simp [keptK]⟩
theorem leftL_pos (hang ends W V : List Str) {i : Nat} (h1 : 1 ≤ i) (hi : i < W.length) : 1 ≤ (leftL hang ends W V i).length := by
  unfold leftL
  rw [List.length_reverse, List.length_map]
  exact List.length_pos_of_mem (List.mem_filter.mpr ⟨keptI_mem0 hang ends W (by apply Ar.y2 <;> assumption), by simp; apply Ar.j6 <;> assumption⟩)
theorem rightL_pos (hang ends W V : List Str) {i : Nat} (hi : i < W.length) (hk : keptK hang ends W i = true) : 1 ≤ (rightL hang ends W V i).length := by
  unfold rightL
  rw [List.length_map]
  exact List.length_pos_of_mem (List.mem_filter.mpr ⟨List.mem_filter.mpr ⟨by simpa using hi, hk⟩, by simp⟩)
theorem lawW_ok {W : List Str} {rows : List Row} {i : Nat} (h1 : 1 ≤ i) (hi : i < W.length) (hr : i < rows.length) (hz9 : W.length ≤ 900) (hzr : rows.length ≤ 1000) : CallOK w (n + 2) 497 [.lst (W.map .str), .lst (rows.map rowD), .int i] (.bool (lawW W rows i)) := by
  refine call_fn (ps := ["classes", "rows", "i"]) rfl rfl rfl (fun vs hl => ?_) (fun env hs => ?_)
  · obtain ⟨a, b, c, rfl⟩ := L3 hl; rfl
  have hz : W.length ≤ 1000 := by apply Ar.sz91 <;> assumption
  have hsl : W.length ≤ sizeLine := by rw [sizeLine_eq]; apply Ar.sz <;> assumption
  have hslr : rows.length ≤ sizeLine := by rw [sizeLine_eq]; apply Ar.sz <;> assumption
  have e1 : ((i : Int) - 1).toNat = i - 1 := by apply Ar.tnS <;> assumption
  refine X.tup (xs := ["a", "b", "ends", "hang"]) rfl rfl rfl (Y.tuple (S.consA rfl (S.item (S.cell (kOf hs rfl) rfl rfl) (Y.bin (S.cell (kOf hs rfl) rfl rfl) Y.int BinOK.subI) (ItemIs.map ?_) (fun _ _ => rfl)) (S.consA rfl (S.item (S.cell (kOf hs rfl) rfl rfl) (S.cell (kOf hs rfl) rfl rfl) (ItemIs.map ?_) (fun _ _ => rfl)) (S.consA rfl (Y.tuple (S.consA rfl Y.str (S.consA rfl Y.str (S.consA rfl Y.str Ys.nil))) (by rw [sizeLine_eq]; exact Nat.le_of_ble_eq_true rfl)) (S.consA rfl (Y.tuple (S.consA rfl Y.str (S.consA rfl Y.str (S.consA rfl Y.str Ys.nil))) (by rw [sizeLine_eq]; exact Nat.le_of_ble_eq_true rfl)) Ys.nil)))) (by rw [sizeLine_eq]; exact Nat.le_of_ble_eq_true rfl)) (.asg (.inl (kOf hs rfl)) (.asg (.inl (kOf hs rfl)) (.asg (.inl (kOf hs rfl)) (.asg (.inl (kOf hs rfl)) .nil)))) rfl ?_
  · apply Ar.t1 <;> assumption
  · apply Ar.t3 <;> assumption
  rw [e1, Int.toNat_natCast, dflt]
  refine X.ifs (YB.boolop (YB.and_cons (S.cmpB rfl (S.loc (kOf hs rfl) rfl rfl) Y.str (by first | with_reducible exact CmpOK.eqS | with_reducible exact CmpOK.eqI | with_reducible exact CmpOK.eqB | with_reducible exact CmpOK.eqLI | with_reducible exact CmpOK.eqLP | ktr_rel)) (fun hq => (YB.and_one (S.cmpB rfl (S.loc (kOf hs rfl) rfl rfl) Y.str (by first | with_reducible exact CmpOK.eqS | with_reducible exact CmpOK.eqI | with_reducible exact CmpOK.eqB | with_reducible exact CmpOK.eqLI | with_reducible exact CmpOK.eqLP | ktr_rel)))))) (fun c1 => X.ret Y.bool (.inl (rb (ip c1)))) (fun c1 => X.nil ?_)
  refine X.ifs (YB.boolop (YB.or_cons (S.cmpB rfl (S.loc (kOf hs rfl) rfl rfl) (S.loc (kOf hs rfl) rfl rfl) (by first | exact CmpOK.inT rfl | with_reducible exact CmpOK.inLS | with_reducible exact CmpOK.inLI | ktr_rel)) (fun hq => (YB.or_one (S.cmpB rfl (S.loc (kOf hs rfl) rfl rfl) (S.loc (kOf hs rfl) rfl rfl) (by first | exact CmpOK.inT rfl | with_reducible exact CmpOK.inLS | with_reducible exact CmpOK.inLI | ktr_rel)))))) (fun c2 => X.ret Y.bool (.inl (rb (iq c1 (ip c2))))) (fun c2 => X.nil ?_)
  refine X.ifs (YB.boolop (YB.or_cons (YB.boolop (YB.and_cons (S.cmpB rfl (S.loc (kOf hs rfl) rfl rfl) Y.str (by first | with_reducible exact CmpOK.eqS | with_reducible exact CmpOK.eqI | with_reducible exact CmpOK.eqB | with_reducible exact CmpOK.eqLI | with_reducible exact CmpOK.eqLP | ktr_rel)) (fun hq => (YB.and_one (S.ofB rfl (S.item (S.item (S.loc (kOf hs rfl) rfl rfl) (S.cell (kOf hs rfl) rfl rfl) (ItemIs.map ?_) (fun _ _ => rfl)) Y.int (ItemIs.tupC rfl (by decide)) (fun _ _ => rfl))))))) (fun hq => (YB.or_cons (YB.boolop (YB.and_cons (S.cmpB rfl (S.loc (kOf hs rfl) rfl rfl) Y.str (by first | with_reducible exact CmpOK.eqS | with_reducible exact CmpOK.eqI | with_reducible exact CmpOK.eqB | with_reducible exact CmpOK.eqLI | with_reducible exact CmpOK.eqLP | ktr_rel)) (fun hq => (YB.and_one (S.cmpB rfl (S.loc (kOf hs rfl) rfl rfl) Y.str (by first | with_reducible exact CmpOK.eqS | with_reducible exact CmpOK.eqI | with_reducible exact CmpOK.eqB | with_reducible exact CmpOK.eqLI | with_reducible exact CmpOK.eqLP | ktr_rel)))))) (fun hq => (YB.or_one (S.cmpB rfl (S.loc (kOf hs rfl) rfl rfl) (S.loc (kOf hs rfl) rfl rfl) (by first | exact CmpOK.inT rfl | with_reducible exact CmpOK.inLS | with_reducible exact CmpOK.inLI | ktr_rel)))))))) (fun c3 => X.ret Y.bool (.inl (rb (iq c1 (iq c2 (ip c3)))))) (fun c3 => X.nil ?_)
  · apply Ar.t3 <;> assumption
  have hk : keptK WSkip WEnds W i = true := by
    have := (Bool.or_eq_false_iff.mp (Bool.or_eq_false_iff.mp c3).2).2
    have : isIn WSkip (W.getD i "") = false := this
    simp only [keptK, this]; rfl
  have hlp := leftL_pos WSkip WEnds W W h1 hi
  have hrp := rightL_pos WSkip WEnds W W hi hk
  have hll := leftL_len WSkip WEnds W W i
  have hrl := rightL_len WSkip WEnds W W i
  refine X.assign (d := .lst ((keptI WSkip WEnds W).map fun i : Nat => .int i)) (S.callN rfl (S.glob (kOf hs rfl) rfl rfl (Stat.fn rfl)) (S.consA rfl (S.cell (kOf hs rfl) rfl rfl) (S.consA rfl (S.loc (kOf hs rfl) rfl rfl) (S.consA rfl (S.loc (kOf hs rfl) rfl rfl) Ys.nil))) (ArgsOk.cons rfl) (S.fnC rfl (kept_ok (hang := WSkip) (ends := WEnds) hz))) (.inl (kOf hs rfl)) rfl ?_
  have hkl := keptI_len WSkip WEnds W
  refine X.tupSw (xs := ["left", "right"]) rfl (swOf hs rfl) (Y.tuple (S.consA rfl (d := .lst ((leftL WSkip WEnds W W i ++ em).map .str)) ?_ (S.consA rfl (d := .lst ((rightL WSkip WEnds W W i ++ em).map .str)) ?_ Ys.nil)) (by rw [sizeLine_eq]; exact Nat.le_of_ble_eq_true rfl)) (kAll hs rfl) rfl ?_
  · refine Y.bin (a := .lst ((leftL WSkip WEnds W W i).map .str)) (b := .lst (em.map .str)) ?_ ?_ (BinOK.addM ?_)
    · refine S.revM (Y.compG (its := keptI WSkip WEnds W) (g := fun j : Nat => D.int j) (q := fun j => decide (j < i)) D.str (fun j : Nat => W.getD j "") hs ?_ rfl (fun _ => rfl) (by apply Ar.v6 <;> assumption) (fun j hj env1 hs1 => YT.one ?_) (fun j hj hq env1 hs1 => ?_)) (Y.neg Y.int) ?_
      · exact (S.loc (kOf hs rfl) rfl rfl)
      · rw [show decide (j < i) = decide ((j : Int) < i) from by rw [decide_eq_decide]; exact Ar.iL]
        exact (S.cmpB rfl (S.loc (kOf hs1 rfl) rfl rfl) (S.cell (kOf hs1 rfl) rfl rfl) CmpOK.ltI)
      · refine (S.item (S.cell (kOf hs1 rfl) rfl rfl) (S.loc (kOf hs1 rfl) rfl rfl) (ItemIs.map ?_) (fun _ _ => rfl))
        have := keptI_lt hj; apply Ar.t3 <;> assumption
      · rw [List.length_map]; exact Nat.le_trans (List.length_filter_le _ _) (by apply Ar.v6 <;> assumption)
    · exact Y.list (S.consA rfl Y.str Ys.nil) (by rw [sizeLine_eq]; exact Nat.le_of_ble_eq_true rfl)
    · show _ + 1 ≤ _; rw [sizeLine_eq]; apply Ar.am <;> assumption
  · refine Y.bin (a := .lst ((rightL WSkip WEnds W W i).map .str)) (b := .lst (em.map .str)) ?_ ?_ (BinOK.addM ?_)
    · refine Y.compG (its := keptI WSkip WEnds W) (g := fun j : Nat => D.int j) (q := fun j => decide (i ≤ j)) D.str (fun j : Nat => W.getD j "") hs ?_ rfl (fun _ => rfl) (by apply Ar.v6 <;> assumption) (fun j hj env1 hs1 => YT.one ?_) (fun j hj hq env1 hs1 => ?_)
      · exact (S.loc (kOf hs rfl) rfl rfl)
      · rw [show decide (i ≤ j) = decide ((i : Int) ≤ j) from by rw [decide_eq_decide]; exact Ar.iE]
        exact (S.cmpB rfl (S.loc (kOf hs1 rfl) rfl rfl) (S.cell (kOf hs1 rfl) rfl rfl) CmpOK.geI)
      · refine (S.item (S.cell (kOf hs1 rfl) rfl rfl) (S.loc (kOf hs1 rfl) rfl rfl) (ItemIs.map ?_) (fun _ _ => rfl))
        have := keptI_lt hj; apply Ar.t3 <;> assumption
    · exact Y.list (S.consA rfl Y.str Ys.nil) (by rw [sizeLine_eq]; exact Nat.le_of_ble_eq_true rfl)
    · show _ + 1 ≤ _; rw [sizeLine_eq]; apply Ar.am <;> assumption
  generalize hLL : leftL WSkip WEnds W W i ++ em = L
  generalize hRR : rightL WSkip WEnds W W i ++ em = R
  have hL2 : 2 ≤ L.length := by rw [← hLL, List.length_append]; show _ ≤ _; simp only [em, List.length_singleton]; lia
  have hR2 : 2 ≤ R.length := by rw [← hRR, List.length_append]; show _ ≤ _; simp only [em, List.length_singleton]; lia
  have hLz : L.length ≤ 1000 := by rw [← hLL, List.length_append]; show _ ≤ _; simp only [em, List.length_singleton]; apply Ar.v2 <;> assumption
  have hRz : R.length ≤ 1000 := by rw [← hRR, List.length_append]; show _ ≤ _; simp only [em, List.length_singleton]; apply Ar.v2 <;> assumption
  have hLsl : L.length ≤ sizeLine := by rw [sizeLine_eq]; apply Ar.sz <;> assumption
  have hRsl : R.length ≤ sizeLine := by rw [sizeLine_eq]; apply Ar.sz <;> assumption
  have hfin : lawW W rows i = lawWB (W.getD (i - 1) "") (W.getD i "") (rows.getD i default).2.2 (L.getD 0 "") (L.getD 1 "") (R.getD 0 "") (R.getD 1 "") (countW (R.getD 0 "") L % 2 == 1) := by
    rw [← hLL, ← hRR]; rfl
  rw [hfin]
  refine X.tup (xs := ["x", "far", "y", "beyond"]) rfl rfl rfl (Y.tuple (S.consA rfl (d := .str (L.getD 0 "")) ?_ (S.consA rfl (d := .str (L.getD 1 "")) ?_ (S.consA rfl (d := .str (R.getD 0 "")) ?_ (S.consA rfl (d := .str (R.getD 1 "")) ?_ Ys.nil)))) (by rw [sizeLine_eq]; exact Nat.le_of_ble_eq_true rfl)) (.asg (.inl (kOf hs rfl)) (.asg (.inl (kOf hs rfl)) (.asg (.inl (kOf hs rfl)) (.asg (.inl (kOf hs rfl)) .nil)))) rfl ?_
  · refine (S.item (S.loc (kOf hs rfl) rfl rfl) Y.int (ItemIs.map ?_) (fun _ _ => rfl))
    exact ⟨by decide, by lia, hLsl⟩
  · refine (S.item (S.loc (kOf hs rfl) rfl rfl) Y.int (ItemIs.map ?_) (fun _ _ => rfl))
    exact ⟨by decide, by lia, hLsl⟩
  · refine (S.item (S.loc (kOf hs rfl) rfl rfl) Y.int (ItemIs.map ?_) (fun _ _ => rfl))
    exact ⟨by decide, by lia, hRsl⟩
  · refine Y.ifexp (S.cmpB rfl (S.lenM (kOf hs rfl) rfl rfl (S.loc (kOf hs rfl) rfl rfl) ?_) Y.int CmpOK.gtI) (fun h => ?_) (fun h => ?_)
    · exact hRsl
    · refine (S.item (S.loc (kOf hs rfl) rfl rfl) Y.int (ItemIs.map ?_) (fun _ _ => rfl))
      exact ⟨by decide, by lia, hRsl⟩
    · have := of_decide_eq_false h; lia
  generalize L.getD 0 "" = x
  generalize L.getD 1 "" = far
  generalize R.getD 0 "" = y
  generalize R.getD 1 "" = beyond
  refine X.tup (xs := ["letters", "mid", "mid_num"]) rfl (swOf hs rfl) rfl (Y.tuple (S.consA rfl (Y.tuple (S.consA rfl Y.str (S.consA rfl Y.str Ys.nil)) (by rw [sizeLine_eq]; exact Nat.le_of_ble_eq_true rfl)) (S.consA rfl (Y.tuple (S.consA rfl Y.str (S.consA rfl Y.str (S.consA rfl Y.str Ys.nil))) (by rw [sizeLine_eq]; exact Nat.le_of_ble_eq_true rfl)) (S.consA rfl (Y.tuple (S.consA rfl Y.str (S.consA rfl Y.str (S.consA rfl Y.str Ys.nil))) (by rw [sizeLine_eq]; exact Nat.le_of_ble_eq_true rfl)) Ys.nil))) (by rw [sizeLine_eq]; exact Nat.le_of_ble_eq_true rfl)) (.asg (.inl (kOf hs rfl)) (.asg (.inl (kOf hs rfl)) (.asg (.inl (kOf hs rfl)) .nil))) rfl ?_
  refine X.ifs (YB.boolop (YB.and_cons (S.cmpB rfl (S.loc (kOf hs rfl) rfl rfl) (S.loc (kOf hs rfl) rfl rfl) (by first | exact CmpOK.inT rfl | with_reducible exact CmpOK.inLS | with_reducible exact CmpOK.inLI | ktr_rel)) (fun hq => (YB.and_one (YB.boolop (YB.or_cons (S.cmpB rfl (S.loc (kOf hs rfl) rfl rfl) (S.loc (kOf hs rfl) rfl rfl) (by first | exact CmpOK.inT rfl | with_reducible exact CmpOK.inLS | with_reducible exact CmpOK.inLI | ktr_rel)) (fun hq => (YB.or_cons (S.cmpB rfl (S.loc (kOf hs rfl) rfl rfl) Y.str (by first | with_reducible exact CmpOK.eqS | with_reducible exact CmpOK.eqI | with_reducible exact CmpOK.eqB | with_reducible exact CmpOK.eqLI | with_reducible exact CmpOK.eqLP | ktr_rel)) (fun hq => (YB.or_one (YB.boolop (YB.and_cons (S.cmpB rfl (S.loc (kOf hs rfl) rfl rfl) (S.loc (kOf hs rfl) rfl rfl) (by first | exact CmpOK.inT rfl | with_reducible exact CmpOK.inLS | with_reducible exact CmpOK.inLI | ktr_rel)) (fun hq => (YB.and_one (S.cmpB rfl (S.loc (kOf hs rfl) rfl rfl) (S.loc (kOf hs rfl) rfl rfl) (by first | exact CmpOK.inT rfl | with_reducible exact CmpOK.inLS | with_reducible exact CmpOK.inLI | ktr_rel)))))))))))))))) (fun c4 => X.ret Y.bool (.inl (rb (iq c1 (iq c2 (iq c3 (ip c4))))))) (fun c4 => X.nil ?_)
  refine X.ifs (YB.boolop (YB.and_cons (S.cmpB rfl (S.loc (kOf hs rfl) rfl rfl) (S.loc (kOf hs rfl) rfl rfl) (by first | exact CmpOK.inT rfl | with_reducible exact CmpOK.inLS | with_reducible exact CmpOK.inLI | ktr_rel)) (fun hq => (YB.and_one (YB.boolop (YB.or_cons (YB.boolop (YB.and_cons (S.cmpB rfl (S.loc (kOf hs rfl) rfl rfl) (S.loc (kOf hs rfl) rfl rfl) (by first | exact CmpOK.inT rfl | with_reducible exact CmpOK.inLS | with_reducible exact CmpOK.inLI | ktr_rel)) (fun hq => (YB.and_one (S.cmpB rfl (S.loc (kOf hs rfl) rfl rfl) (S.loc (kOf hs rfl) rfl rfl) (by first | exact CmpOK.inT rfl | with_reducible exact CmpOK.inLS | with_reducible exact CmpOK.inLI | ktr_rel)))))) (fun hq => (YB.or_one (S.cmpB rfl (S.loc (kOf hs rfl) rfl rfl) Y.str (by first | with_reducible exact CmpOK.eqS | with_reducible exact CmpOK.eqI | with_reducible exact CmpOK.eqB | with_reducible exact CmpOK.eqLI | with_reducible exact CmpOK.eqLP | ktr_rel)))))))))) (fun c5 => X.ret Y.bool (.inl (rb (iq c1 (iq c2 (iq c3 (iq c4 (ip c5)))))))) (fun c5 => X.nil ?_)
  refine X.ifs (YB.boolop (YB.and_cons (S.cmpB rfl (S.loc (kOf hs rfl) rfl rfl) Y.str (by first | with_reducible exact CmpOK.eqS | with_reducible exact CmpOK.eqI | with_reducible exact CmpOK.eqB | with_reducible exact CmpOK.eqLI | with_reducible exact CmpOK.eqLP | ktr_rel)) (fun hq => (YB.and_one (YB.boolop (YB.or_cons (S.cmpB rfl (S.loc (kOf hs rfl) rfl rfl) Y.str (by first | with_reducible exact CmpOK.eqS | with_reducible exact CmpOK.eqI | with_reducible exact CmpOK.eqB | with_reducible exact CmpOK.eqLI | with_reducible exact CmpOK.eqLP | ktr_rel)) (fun hq => (YB.or_one (YB.boolop (YB.and_cons (S.cmpB rfl (S.loc (kOf hs rfl) rfl rfl) Y.str (by first | with_reducible exact CmpOK.eqS | with_reducible exact CmpOK.eqI | with_reducible exact CmpOK.eqB | with_reducible exact CmpOK.eqLI | with_reducible exact CmpOK.eqLP | ktr_rel)) (fun hq => (YB.and_one (S.cmpB rfl (S.loc (kOf hs rfl) rfl rfl) Y.str (by first | with_reducible exact CmpOK.eqS | with_reducible exact CmpOK.eqI | with_reducible exact CmpOK.eqB | with_reducible exact CmpOK.eqLI | with_reducible exact CmpOK.eqLP | ktr_rel)))))))))))))) (fun c6 => X.ret Y.bool (.inl (rb (iq c1 (iq c2 (iq c3 (iq c4 (iq c5 (ip c6))))))))) (fun c6 => X.nil ?_)
  refine X.ifs (YB.boolop (YB.and_cons (S.cmpB rfl (S.loc (kOf hs rfl) rfl rfl) Y.str (by first | with_reducible exact CmpOK.eqS | with_reducible exact CmpOK.eqI | with_reducible exact CmpOK.eqB | with_reducible exact CmpOK.eqLI | with_reducible exact CmpOK.eqLP | ktr_rel)) (fun hq => (YB.and_cons (S.cmpB rfl (S.loc (kOf hs rfl) rfl rfl) Y.str (by first | with_reducible exact CmpOK.eqS | with_reducible exact CmpOK.eqI | with_reducible exact CmpOK.eqB | with_reducible exact CmpOK.eqLI | with_reducible exact CmpOK.eqLP | ktr_rel)) (fun hq => (YB.and_one (S.cmpB rfl (S.loc (kOf hs rfl) rfl rfl) Y.str (by first | with_reducible exact CmpOK.eqS | with_reducible exact CmpOK.eqI | with_reducible exact CmpOK.eqB | with_reducible exact CmpOK.eqLI | with_reducible exact CmpOK.eqLP | ktr_rel)))))))) (fun c7 => X.ret Y.bool (.inl (rb (iq c1 (iq c2 (iq c3 (iq c4 (iq c5 (iq c6 (ip c7)))))))))) (fun c7 => X.nil ?_)
  refine X.ifs (YB.boolop (YB.and_cons (S.cmpB rfl (S.loc (kOf hs rfl) rfl rfl) Y.str (by first | with_reducible exact CmpOK.eqS | with_reducible exact CmpOK.eqI | with_reducible exact CmpOK.eqB | with_reducible exact CmpOK.eqLI | with_reducible exact CmpOK.eqLP | ktr_rel)) (fun hq => (YB.and_one (YB.boolop (YB.or_cons (S.cmpB rfl (S.loc (kOf hs rfl) rfl rfl) Y.str (by first | with_reducible exact CmpOK.eqS | with_reducible exact CmpOK.eqI | with_reducible exact CmpOK.eqB | with_reducible exact CmpOK.eqLI | with_reducible exact CmpOK.eqLP | ktr_rel)) (fun hq => (YB.or_one (YB.boolop (YB.and_cons (S.cmpB rfl (S.loc (kOf hs rfl) rfl rfl) (S.loc (kOf hs rfl) rfl rfl) (by first | exact CmpOK.inT rfl | with_reducible exact CmpOK.inLS | with_reducible exact CmpOK.inLI | ktr_rel)) (fun hq => (YB.and_one (S.cmpB rfl (S.loc (kOf hs rfl) rfl rfl) Y.str (by first | with_reducible exact CmpOK.eqS | with_reducible exact CmpOK.eqI | with_reducible exact CmpOK.eqB | with_reducible exact CmpOK.eqLI | with_reducible exact CmpOK.eqLP | ktr_rel)))))))))))))) (fun c8 => X.ret Y.bool (.inl (rb (iq c1 (iq c2 (iq c3 (iq c4 (iq c5 (iq c6 (iq c7 (ip c8))))))))))) (fun c8 => X.nil ?_)
  refine X.ifs (YB.boolop (YB.or_cons (YB.boolop (YB.and_cons (S.cmpB rfl (S.loc (kOf hs rfl) rfl rfl) Y.str (by first | with_reducible exact CmpOK.eqS | with_reducible exact CmpOK.eqI | with_reducible exact CmpOK.eqB | with_reducible exact CmpOK.eqLI | with_reducible exact CmpOK.eqLP | ktr_rel)) (fun hq => (YB.and_cons (S.cmpB rfl (S.loc (kOf hs rfl) rfl rfl) (S.loc (kOf hs rfl) rfl rfl) (by first | exact CmpOK.inT rfl | with_reducible exact CmpOK.inLS | with_reducible exact CmpOK.inLI | ktr_rel)) (fun hq => (YB.and_one (S.cmpB rfl (S.loc (kOf hs rfl) rfl rfl) Y.str (by first | with_reducible exact CmpOK.eqS | with_reducible exact CmpOK.eqI | with_reducible exact CmpOK.eqB | with_reducible exact CmpOK.eqLI | with_reducible exact CmpOK.eqLP | ktr_rel)))))))) (fun hq => (YB.or_one (YB.boolop (YB.and_cons (S.cmpB rfl (S.loc (kOf hs rfl) rfl rfl) Y.str (by first | with_reducible exact CmpOK.eqS | with_reducible exact CmpOK.eqI | with_reducible exact CmpOK.eqB | with_reducible exact CmpOK.eqLI | with_reducible exact CmpOK.eqLP | ktr_rel)) (fun hq => (YB.and_one (S.cmpB rfl (S.loc (kOf hs rfl) rfl rfl) Y.str (by first | with_reducible exact CmpOK.eqS | with_reducible exact CmpOK.eqI | with_reducible exact CmpOK.eqB | with_reducible exact CmpOK.eqLI | with_reducible exact CmpOK.eqLP | ktr_rel)))))))))) (fun c9 => X.ret Y.bool (.inl (rb (iq c1 (iq c2 (iq c3 (iq c4 (iq c5 (iq c6 (iq c7 (iq c8 (ip c9)))))))))))) (fun c9 => X.nil ?_)
  refine X.assign (Y.tuple (S.consA rfl Y.str (S.consA rfl Y.str (S.consA rfl Y.str (S.consA rfl Y.str Ys.nil)))) (by rw [sizeLine_eq]; exact Nat.le_of_ble_eq_true rfl)) (.inl (kOf hs rfl)) rfl ?_
  refine X.ifs (YB.boolop (YB.or_cons (YB.boolop (YB.and_cons (S.cmpB rfl (S.loc (kOf hs rfl) rfl rfl) Y.str (by first | with_reducible exact CmpOK.eqS | with_reducible exact CmpOK.eqI | with_reducible exact CmpOK.eqB | with_reducible exact CmpOK.eqLI | with_reducible exact CmpOK.eqLP | ktr_rel)) (fun hq => (YB.and_one (YB.boolop (YB.or_cons (S.cmpB rfl (S.loc (kOf hs rfl) rfl rfl) (S.loc (kOf hs rfl) rfl rfl) (by first | exact CmpOK.inT rfl | with_reducible exact CmpOK.inLS | with_reducible exact CmpOK.inLI | ktr_rel)) (fun hq => (YB.or_one (S.cmpB rfl (S.loc (kOf hs rfl) rfl rfl) (S.loc (kOf hs rfl) rfl rfl) (by first | with_reducible exact CmpOK.eqS | with_reducible exact CmpOK.eqI | with_reducible exact CmpOK.eqB | with_reducible exact CmpOK.eqLI | with_reducible exact CmpOK.eqLP | ktr_rel)))))))))) (fun hq => (YB.or_one (YB.boolop (YB.and_cons (S.cmpB rfl (S.loc (kOf hs rfl) rfl rfl) Y.str (by first | with_reducible exact CmpOK.eqS | with_reducible exact CmpOK.eqI | with_reducible exact CmpOK.eqB | with_reducible exact CmpOK.eqLI | with_reducible exact CmpOK.eqLP | ktr_rel)) (fun hq => (YB.and_one (S.cmpB rfl (S.loc (kOf hs rfl) rfl rfl) (S.loc (kOf hs rfl) rfl rfl) (by first | exact CmpOK.inT rfl | with_reducible exact CmpOK.inLS | with_reducible exact CmpOK.inLI | ktr_rel)))))))))) (fun c10 => X.ret Y.bool (.inl (rb (iq c1 (iq c2 (iq c3 (iq c4 (iq c5 (iq c6 (iq c7 (iq c8 (iq c9 (ip c10))))))))))))) (fun c10 => X.nil ?_)
  refine X.ret (Y.not (Y.boolop (Y.and_cons (S.cmpV rfl (S.loc (kOf hs rfl) rfl rfl) Y.str (by first | with_reducible exact CmpOK.eqS | with_reducible exact CmpOK.eqI | with_reducible exact CmpOK.eqB | with_reducible exact CmpOK.eqLI | with_reducible exact CmpOK.eqLP | ktr_rel)) (fun hq => (Y.bo_last (S.cmpV rfl (Y.bin (S.callN rfl (S.glob (kOf hs rfl) rfl rfl (Stat.fn rfl)) (S.consA rfl (S.loc (kOf hs rfl) rfl rfl) (S.consA rfl (S.loc (kOf hs rfl) rfl rfl) Ys.nil)) (ArgsOk.cons rfl) (S.fnC rfl (lcount_ok ?_))) Y.int (BinOK.modI (by decide))) Y.int (by first | with_reducible exact CmpOK.eqS | with_reducible exact CmpOK.eqI | with_reducible exact CmpOK.eqB | with_reducible exact CmpOK.eqLI | with_reducible exact CmpOK.eqLP | ktr_rel))))))) (.inl (rb (iq c1 (iq c2 (iq c3 (iq c4 (iq c5 (iq c6 (iq c7 (iq c8 (iq c9 (iq c10 ?_))))))))))))
  · assumption
  · congr 2
    rw [Int.fmod_eq_emod_of_nonneg _ (by decide), Bool.eq_iff_iff, beq_iff_eq, beq_iff_eq]
    exact Ar.b3
end
end Uni
namespace Uni
noncomputable def plainS (W : List Str) : List Str := W.map fun x => if isIn SHang x = true then "Other" else x
noncomputable abbrev em2 : List Str := ["", ""]
noncomputable abbrev LSN : List Str := ["SContinue", "ATerm", "STerm", "Sp", "Sep", "CR", "LF"]
noncomputable def lawSB (a b y l0 l1 ahead : Str) (low blanks0 : Bool) : Bool :=
  if a == "CR" && b == "LF" then false
  else if isIn SParas a then true
  else if isIn SHang b then false
  else if l0 == "ATerm" && (y == "Numeric" || (isIn SCased l1 && y == "Upper")) then false
  else if !isIn STerms ahead then false
  else if ahead == "ATerm" && low then false
  else if isIn LSN y || (y == "Close" && blanks0) then false
  else true
noncomputable def lawS (W : List Str) (i : Nat) : Bool :=
  let l := leftL SHang SParas W (plainS W) i ++ em2
  let r := rightL SHang SParas W (plainS W) i
  lawSB (W.getD (i - 1) "") (W.getD i "") (r.getD 0 "") (l.getD 0 "") (l.getD 1 "") (l.getD (countW "Sp" l + countW "Close" (l.drop (countW "Sp" l))) "") ((r.filter (isIn SStops ·)).take 1 == [("Lower" : Str)]) (countW "Sp" l == 0)
theorem swsOf {env : Env} {sc : Scope} {v : Expr} {t : Option Expr} {l : Nat} {b : Bool} (hs : env.scope = sc) (e : swapsWith v t l { env with scope := sc } = pure b) : swapsWith v t l env = pure b := by
  have : { env with scope := sc } = env := by rw [← hs]
  rwa [this] at e
theorem countW_app {x : Str} (hx : (("" : Str) == x) = false) : ∀ l : List Str, countW x (l ++ em2) ≤ l.length
  | [] => by simp [countW, em2, hx]
  | a :: l => by
    have := countW_app hx l
    unfold countW at this ⊢
    rw [List.cons_append, List.takeWhile_cons]
    split
    · simpa using this
    · simp
section
variable {w : World} {n : Nat} {T : Tb}
set_option maxHeartbeats 4000000
theorem lawS_ok {W : List Str} {i : Nat} (h1 : 1 ≤ i) (hi : i < W.length) (hz9 : W.length ≤ 900) : CallOK w (n + 2) 502 [.lst (W.map .str), .int i] (.bool (lawS W i)) := by
  refine call_fn (ps := ["classes", "i"]) rfl rfl rfl (fun vs hl => ?_) (fun env hs => ?_)
  · obtain ⟨a, b, rfl⟩ := L2 hl; rfl
  have hz : W.length ≤ 1000 := by apply Ar.sz91 <;> assumption
  have hsl : W.length ≤ sizeLine := by rw [sizeLine_eq]; apply Ar.sz <;> assumption
  have e1 : ((i : Int) - 1).toNat = i - 1 := by apply Ar.tnS <;> assumption
  refine X.tup (xs := ["a", "b", "ends", "hang"]) rfl rfl rfl (Y.tuple (S.consA rfl (S.item (S.loc (kOf hs rfl) rfl rfl) (Y.bin (S.cell (kOf hs rfl) rfl rfl) Y.int BinOK.subI) (ItemIs.map ?_) (fun _ _ => rfl)) (S.consA rfl (S.item (S.loc (kOf hs rfl) rfl rfl) (S.cell (kOf hs rfl) rfl rfl) (ItemIs.map ?_) (fun _ _ => rfl)) (S.consA rfl (Y.tuple (S.consA rfl Y.str (S.consA rfl Y.str (S.consA rfl Y.str Ys.nil))) (by rw [sizeLine_eq]; exact Nat.le_of_ble_eq_true rfl)) (S.consA rfl (Y.tuple (S.consA rfl Y.str (S.consA rfl Y.str Ys.nil)) (by rw [sizeLine_eq]; exact Nat.le_of_ble_eq_true rfl)) Ys.nil)))) (by rw [sizeLine_eq]; exact Nat.le_of_ble_eq_true rfl)) (.asg (.inl (kOf hs rfl)) (.asg (.inl (kOf hs rfl)) (.asg (.inl (kOf hs rfl)) (.asg (.inr (kOf hs rfl)) .nil)))) rfl ?_
  · apply Ar.t1 <;> assumption
  · apply Ar.t3 <;> assumption
  rw [e1, Int.toNat_natCast, dflt]
  refine X.ifs (YB.boolop (YB.and_cons (S.cmpB rfl (S.loc (kOf hs rfl) rfl rfl) Y.str (by first | with_reducible exact CmpOK.eqS | with_reducible exact CmpOK.eqI | with_reducible exact CmpOK.eqB | with_reducible exact CmpOK.eqLI | with_reducible exact CmpOK.eqLP | ktr_rel)) (fun hq => (YB.and_one (S.cmpB rfl (S.loc (kOf hs rfl) rfl rfl) Y.str (by first | with_reducible exact CmpOK.eqS | with_reducible exact CmpOK.eqI | with_reducible exact CmpOK.eqB | with_reducible exact CmpOK.eqLI | with_reducible exact CmpOK.eqLP | ktr_rel)))))) (fun c1 => X.ret Y.bool (.inl (rb (ip c1)))) (fun c1 => X.nil ?_)
  refine X.ifs (S.cmpB rfl (S.loc (kOf hs rfl) rfl rfl) (S.loc (kOf hs rfl) rfl rfl) (by first | exact CmpOK.inT rfl | with_reducible exact CmpOK.inLS | with_reducible exact CmpOK.inLI | ktr_rel)) (fun c2 => X.ret Y.bool (.inl (rb (iq c1 (ip c2))))) (fun c2 => X.nil ?_)
  refine X.ifs (S.cmpB rfl (S.loc (kOf hs rfl) rfl rfl) (S.cell (kOf hs rfl) rfl rfl) (by first | exact CmpOK.inT rfl | with_reducible exact CmpOK.inLS | with_reducible exact CmpOK.inLI | ktr_rel)) (fun c3 => X.ret Y.bool (.inl (rb (iq c1 (iq c2 (ip c3)))))) (fun c3 => X.nil ?_)
  have hk : keptK SHang SParas W i = true := by
    have : isIn SHang (W.getD i "") = false := c3
    simp only [keptK, this]; rfl
  have hlp := leftL_pos SHang SParas W (plainS W) h1 hi
  have hrp := rightL_pos SHang SParas W (plainS W) hi hk
  have hll := leftL_len SHang SParas W (plainS W) i
  have hrl := rightL_len SHang SParas W (plainS W) i
  refine X.assign (d := .lst ((keptI SHang SParas W).map fun i : Nat => .int i)) (S.callN rfl (S.glob (kOf hs rfl) rfl rfl (Stat.fn rfl)) (S.consA rfl (S.loc (kOf hs rfl) rfl rfl) (S.consA rfl (S.cell (kOf hs rfl) rfl rfl) (S.consA rfl (S.loc (kOf hs rfl) rfl rfl) Ys.nil))) (ArgsOk.cons rfl) (S.fnC rfl (kept_ok (hang := SHang) (ends := SParas) hz))) (.inl (kOf hs rfl)) rfl ?_
  have hkl := keptI_len SHang SParas W
  have hpl : (plainS W).length = W.length := by simp [plainS]
  refine X.assign (d := .lst ((plainS W).map .str)) ?_ (.inr (kOf hs rfl)) (swsOf hs rfl) ?_
  · refine Y.compG0 (its := W) (g := D.str) D.str (fun x => if isIn SHang x = true then "Other" else x) hs (S.loc (kOf hs rfl) rfl rfl) rfl (fun _ => rfl) hsl (fun a ha env1 hs1 => ?_)
    exact Y.ifexpS (S.cmpB rfl (S.loc (kOf hs1 rfl) rfl rfl) (S.cell (kOf hs1 rfl) rfl rfl) (CmpOK.inTS (ss := SHang))) (fun hq => Y.str) (fun hq => S.loc (kOf hs1 rfl) rfl rfl)
  refine X.tupSw (xs := ["left", "right"]) rfl (swOf hs rfl) (Y.tuple (S.consA rfl (d := .lst ((leftL SHang SParas W (plainS W) i ++ em2).map .str)) ?_ (S.consA rfl (d := .lst ((rightL SHang SParas W (plainS W) i).map .str)) ?_ Ys.nil)) (by rw [sizeLine_eq]; exact Nat.le_of_ble_eq_true rfl)) (kAll hs rfl) rfl ?_
  · refine Y.bin (a := .lst ((leftL SHang SParas W (plainS W) i).map .str)) (b := .lst (em2.map .str)) ?_ ?_ (BinOK.addM ?_)
    · refine S.revM (Y.compG (its := keptI SHang SParas W) (g := fun j : Nat => D.int j) (q := fun j => decide (j < i)) D.str (fun j : Nat => (plainS W).getD j "") hs ?_ rfl (fun _ => rfl) (by apply Ar.v6 <;> assumption) (fun j hj env1 hs1 => YT.one ?_) (fun j hj hq env1 hs1 => ?_)) (Y.neg Y.int) ?_
      · exact (S.loc (kOf hs rfl) rfl rfl)
      · rw [show decide (j < i) = decide ((j : Int) < i) from by rw [decide_eq_decide]; exact Ar.iL]
        exact (S.cmpB rfl (S.loc (kOf hs1 rfl) rfl rfl) (S.cell (kOf hs1 rfl) rfl rfl) CmpOK.ltI)
      · refine (S.item (S.cell (kOf hs1 rfl) rfl rfl) (S.loc (kOf hs1 rfl) rfl rfl) (ItemIs.map ?_) (fun _ _ => rfl))
        have := keptI_lt hj; lia
      · rw [List.length_map]; exact Nat.le_trans (List.length_filter_le _ _) (by apply Ar.v6 <;> assumption)
    · exact Y.list (S.consA rfl Y.str (S.consA rfl Y.str Ys.nil)) (by rw [sizeLine_eq]; exact Nat.le_of_ble_eq_true rfl)
    · show _ + 2 ≤ _; rw [sizeLine_eq]; lia
  · refine Y.compG (its := keptI SHang SParas W) (g := fun j : Nat => D.int j) (q := fun j => decide (i ≤ j)) D.str (fun j : Nat => (plainS W).getD j "") hs ?_ rfl (fun _ => rfl) (by apply Ar.v6 <;> assumption) (fun j hj env1 hs1 => YT.one ?_) (fun j hj hq env1 hs1 => ?_)
    · exact (S.loc (kOf hs rfl) rfl rfl)
    · rw [show decide (i ≤ j) = decide ((i : Int) ≤ j) from by rw [decide_eq_decide]; exact Ar.iE]
      exact (S.cmpB rfl (S.loc (kOf hs1 rfl) rfl rfl) (S.cell (kOf hs1 rfl) rfl rfl) CmpOK.geI)
    · refine (S.item (S.cell (kOf hs1 rfl) rfl rfl) (S.loc (kOf hs1 rfl) rfl rfl) (ItemIs.map ?_) (fun _ _ => rfl))
      have := keptI_lt hj; lia
  have hb1 : countW "Sp" (leftL SHang SParas W (plainS W) i ++ em2) ≤ (leftL SHang SParas W (plainS W) i).length := countW_app (by decide) _
  have hb2 : countW "Close" ((leftL SHang SParas W (plainS W) i ++ em2).drop (countW "Sp" (leftL SHang SParas W (plainS W) i ++ em2))) ≤ (leftL SHang SParas W (plainS W) i).length - countW "Sp" (leftL SHang SParas W (plainS W) i ++ em2) := by
    rw [List.drop_append_of_le_length hb1]
    have := countW_app (x := "Close") (by decide) ((leftL SHang SParas W (plainS W) i).drop (countW "Sp" (leftL SHang SParas W (plainS W) i ++ em2)))
    rwa [List.length_drop] at this
  have hLlen : (leftL SHang SParas W (plainS W) i ++ em2).length = (leftL SHang SParas W (plainS W) i).length + 2 := by rw [List.length_append]; rfl
  have hfin : lawS W i = lawSB (W.getD (i - 1) "") (W.getD i "") ((rightL SHang SParas W (plainS W) i).getD 0 "") ((leftL SHang SParas W (plainS W) i ++ em2).getD 0 "") ((leftL SHang SParas W (plainS W) i ++ em2).getD 1 "") ((leftL SHang SParas W (plainS W) i ++ em2).getD (countW "Sp" (leftL SHang SParas W (plainS W) i ++ em2) + countW "Close" ((leftL SHang SParas W (plainS W) i ++ em2).drop (countW "Sp" (leftL SHang SParas W (plainS W) i ++ em2)))) "") (((rightL SHang SParas W (plainS W) i).filter (isIn SStops ·)).take 1 == [("Lower" : Str)]) (countW "Sp" (leftL SHang SParas W (plainS W) i ++ em2) == 0) := rfl
  rw [hfin]
  generalize leftL SHang SParas W (plainS W) i ++ em2 = L at *
  generalize rightL SHang SParas W (plainS W) i = R at *
  have hLsl : L.length ≤ sizeLine := by rw [sizeLine_eq]; apply Ar.an <;> assumption
  have hRsl : R.length ≤ sizeLine := by rw [sizeLine_eq]; apply Ar.al <;> assumption
  refine X.assign (d := .str (R.getD 0 "")) ?_ (.inl (kOf hs rfl)) rfl ?_
  · refine (S.item (S.loc (kOf hs rfl) rfl rfl) Y.int (ItemIs.map ?_) (fun _ _ => rfl))
    exact ⟨by decide, by lia, hRsl⟩
  generalize hy : R.getD 0 "" = y
  refine X.ifs (YB.boolop (YB.and_cons (S.cmpB rfl (S.item (S.loc (kOf hs rfl) rfl rfl) Y.int (ItemIs.map ?_) (fun _ _ => rfl)) Y.str (by first | with_reducible exact CmpOK.eqS | with_reducible exact CmpOK.eqI | with_reducible exact CmpOK.eqB | with_reducible exact CmpOK.eqLI | with_reducible exact CmpOK.eqLP | ktr_rel)) (fun hq => (YB.and_one (YB.boolop (YB.or_cons (S.cmpB rfl (S.loc (kOf hs rfl) rfl rfl) Y.str (by first | with_reducible exact CmpOK.eqS | with_reducible exact CmpOK.eqI | with_reducible exact CmpOK.eqB | with_reducible exact CmpOK.eqLI | with_reducible exact CmpOK.eqLP | ktr_rel)) (fun hq => (YB.or_one (YB.boolop (YB.and_cons (S.cmpB rfl (S.item (S.loc (kOf hs rfl) rfl rfl) Y.int (ItemIs.map ?_) (fun _ _ => rfl)) (Y.tuple (S.consA rfl Y.str (S.consA rfl Y.str Ys.nil)) (by rw [sizeLine_eq]; exact Nat.le_of_ble_eq_true rfl)) (by first | exact CmpOK.inT rfl | with_reducible exact CmpOK.inLS | with_reducible exact CmpOK.inLI | ktr_rel)) (fun hq => (YB.and_one (S.cmpB rfl (S.loc (kOf hs rfl) rfl rfl) Y.str (by first | with_reducible exact CmpOK.eqS | with_reducible exact CmpOK.eqI | with_reducible exact CmpOK.eqB | with_reducible exact CmpOK.eqLI | with_reducible exact CmpOK.eqLP | ktr_rel)))))))))))))) (fun c4 => ?_) (fun c4 => X.nil ?_)
  · exact ⟨by decide, by lia, hLsl⟩
  · exact ⟨by decide, by lia, hLsl⟩
  · exact X.ret Y.bool (.inl (rb (iq c1 (iq c2 (iq c3 (ip c4))))))
  refine X.assign (S.callN rfl (S.glob (kOf hs rfl) rfl rfl (Stat.fn rfl)) (S.consA rfl (S.loc (kOf hs rfl) rfl rfl) (S.consA rfl Y.str Ys.nil)) (ArgsOk.cons rfl) (S.fnC rfl (lcount_ok ?_))) (.inl (kOf hs rfl)) rfl ?_
  · apply Ar.ao <;> assumption
  refine X.assign (d := .str (L.getD (countW "Sp" L + countW "Close" (L.drop (countW "Sp" L))) "")) ?_ (.inl (kOf hs rfl)) rfl ?_
  · rw [show countW "Sp" L + countW "Close" (L.drop (countW "Sp" L)) = ((countW "Sp" L : Int) + (countW "Close" (L.drop ((countW "Sp" L : Nat) : Int).toNat) : Nat)).toNat from by rw [Int.toNat_natCast]; exact Ar.r8]
    refine (S.item (S.loc (kOf hs rfl) rfl rfl) (Y.bin (S.loc (kOf hs rfl) rfl rfl) (S.callN rfl (S.glob (kOf hs rfl) rfl rfl (Stat.fn rfl)) (S.consA rfl (S.fromM (S.loc (kOf hs rfl) rfl rfl) (S.loc (kOf hs rfl) rfl rfl) ?_) (S.consA rfl Y.str Ys.nil)) (ArgsOk.cons rfl) (S.fnC rfl (lcount_ok ?_))) (by first | with_reducible exact BinOK.addI | ktr_rel)) (ItemIs.map ?_) (fun _ _ => rfl))
    · exact ⟨Int.natCast_nonneg _, hLsl⟩
    · rw [List.length_drop]; apply Ar.ap <;> assumption
    · rw [Int.toNat_natCast]; lia
  generalize L.getD (countW "Sp" L + countW "Close" (L.drop (countW "Sp" L))) "" = ahead
  refine X.ifs (S.cmpB rfl (S.loc (kOf hs rfl) rfl rfl) (Y.tuple (S.consA rfl Y.str (S.consA rfl Y.str Ys.nil)) (by rw [sizeLine_eq]; exact Nat.le_of_ble_eq_true rfl)) (by first | exact CmpOK.ninT rfl | with_reducible exact CmpOK.ninLI | ktr_rel)) (fun c5 => X.ret Y.bool (.inl (rb (iq c1 (iq c2 (iq c3 (iq c4 (ip c5)))))))) (fun c5 => X.nil ?_)
  have ebl : (((countW "Sp" L : Nat) : Int) == 0) = (countW "Sp" L == 0) := by rw [Bool.eq_iff_iff, beq_iff_eq, beq_iff_eq]; exact Ar.iZ
  refine X.ifs (S.cmpB rfl (S.loc (kOf hs rfl) rfl rfl) Y.str (by first | with_reducible exact CmpOK.eqS | with_reducible exact CmpOK.eqI | with_reducible exact CmpOK.eqB | with_reducible exact CmpOK.eqLI | with_reducible exact CmpOK.eqLP | ktr_rel)) (fun c6 => ?_) (fun c6 => X.nil ?_)
  · refine asgCompG (its := R) (g := D.str) (q := fun a => isIn SStops a) D.str (fun a : Str => a) hs (S.loc (kOf hs rfl) rfl rfl) rfl (swsOf hs rfl) (.inl (kOf hs rfl)) (fun _ => rfl) hRsl (fun a ha env1 hs1 => YT.one ?_) (fun a ha hq env1 hs1 => ?_) ?_
    · exact (S.cmpB rfl (S.loc (kOf hs1 rfl) rfl rfl) (Y.tuple (S.consA rfl Y.str (S.consA rfl Y.str (S.consA rfl Y.str (S.consA rfl Y.str (S.consA rfl Y.str (S.consA rfl Y.str (S.consA rfl Y.str (S.consA rfl Y.str Ys.nil)))))))) (by rw [sizeLine_eq]; exact Nat.le_of_ble_eq_true rfl)) (by first | exact CmpOK.inT rfl | with_reducible exact CmpOK.inLS | with_reducible exact CmpOK.inLI | ktr_rel))
    · exact (S.loc (kOf hs1 rfl) rfl rfl)
    rw [List.map_id']
    have hst : ∀ x ∈ (R.filter fun a => isIn SStops a), PyData.strOk x = true := fun x hx => by
      have := (List.mem_filter.mp hx).2
      simp only [isIn, List.any_cons, List.any_nil, Bool.or_false, Bool.or_eq_true, beq_iff_eq] at this
      rcases this with h | h | h | h | h | h | h | h <;> subst h <;> kernel_rfl
    refine X.ifs (b := ((R.filter fun a => isIn SStops a).take 1 == [("Lower" : Str)])) ?_ (fun c7 => X.ret Y.bool (.inl (rb (iq c1 (iq c2 (iq c3 (iq c4 (iq c5 (ia c6 (ip c7)))))))))) (fun c7 => X.nil (X.nil ?_))
    · refine S.cmpB rfl (S.toM (k := 1) (S.loc (kOf hs rfl) rfl rfl) Y.int ⟨by decide, ?_⟩) (Y.list (S.consA rfl Y.str Ys.nil) (by rw [sizeLine_eq]; exact Nat.le_of_ble_eq_true rfl)) (CmpOK.eqLS1 ?_ (by kernel_rfl))
      · exact Nat.le_trans (List.length_filter_le _ _) hRsl
      · exact List.all_eq_true.mpr fun x hx => hst x (List.mem_of_mem_take hx)
    refine X.ifs (YB.boolop (YB.or_cons (S.cmpB rfl (S.loc (kOf hs rfl) rfl rfl) (Y.tuple (S.consA rfl Y.str (S.consA rfl Y.str (S.consA rfl Y.str (S.consA rfl Y.str (S.consA rfl Y.str (S.consA rfl Y.str (S.consA rfl Y.str Ys.nil))))))) (by rw [sizeLine_eq]; exact Nat.le_of_ble_eq_true rfl)) (by first | exact CmpOK.inT rfl | with_reducible exact CmpOK.inLS | with_reducible exact CmpOK.inLI | ktr_rel)) (fun hq => (YB.or_one (YB.boolop (YB.and_cons (S.cmpB rfl (S.loc (kOf hs rfl) rfl rfl) Y.str (by first | with_reducible exact CmpOK.eqS | with_reducible exact CmpOK.eqI | with_reducible exact CmpOK.eqB | with_reducible exact CmpOK.eqLI | with_reducible exact CmpOK.eqLP | ktr_rel)) (fun hq => (YB.and_one (S.cmpB rfl (S.loc (kOf hs rfl) rfl rfl) Y.int (by first | with_reducible exact CmpOK.eqS | with_reducible exact CmpOK.eqI | with_reducible exact CmpOK.eqB | with_reducible exact CmpOK.eqLI | with_reducible exact CmpOK.eqLP | ktr_rel)))))))))) (fun c8 => ?_) (fun c8 => X.nil ?_)
    · rw [ebl] at c8
      exact X.ret Y.bool (.inl (rb (iq c1 (iq c2 (iq c3 (iq c4 (iq c5 (ia c6 (iq c7 (ip c8))))))))))
    rw [ebl] at c8
    exact X.ret Y.bool (.inl (rb (iq c1 (iq c2 (iq c3 (iq c4 (iq c5 (ia c6 (iq c7 (iq c8 rfl)))))))))) 
  · refine X.ifs (YB.boolop (YB.or_cons (S.cmpB rfl (S.loc (kOf hs rfl) rfl rfl) (Y.tuple (S.consA rfl Y.str (S.consA rfl Y.str (S.consA rfl Y.str (S.consA rfl Y.str (S.consA rfl Y.str (S.consA rfl Y.str (S.consA rfl Y.str Ys.nil))))))) (by rw [sizeLine_eq]; exact Nat.le_of_ble_eq_true rfl)) (by first | exact CmpOK.inT rfl | with_reducible exact CmpOK.inLS | with_reducible exact CmpOK.inLI | ktr_rel)) (fun hq => (YB.or_one (YB.boolop (YB.and_cons (S.cmpB rfl (S.loc (kOf hs rfl) rfl rfl) Y.str (by first | with_reducible exact CmpOK.eqS | with_reducible exact CmpOK.eqI | with_reducible exact CmpOK.eqB | with_reducible exact CmpOK.eqLI | with_reducible exact CmpOK.eqLP | ktr_rel)) (fun hq => (YB.and_one (S.cmpB rfl (S.loc (kOf hs rfl) rfl rfl) Y.int (by first | with_reducible exact CmpOK.eqS | with_reducible exact CmpOK.eqI | with_reducible exact CmpOK.eqB | with_reducible exact CmpOK.eqLI | with_reducible exact CmpOK.eqLP | ktr_rel)))))))))) (fun c8 => ?_) (fun c8 => X.nil ?_)
    · rw [ebl] at c8
      exact X.ret Y.bool (.inl (rb (iq c1 (iq c2 (iq c3 (iq c4 (iq c5 (ian c6 (ip c8)))))))))
    rw [ebl] at c8
    exact X.ret Y.bool (.inl (rb (iq c1 (iq c2 (iq c3 (iq c4 (iq c5 (ian c6 (iq c8 rfl)))))))))
end
end Uni
namespace Uni
section
variable {w : World} {n : Nat} {T : Tb}
set_option maxHeartbeats 4000000
theorem call_fnMD {f : Addr} {ps : List Str} {name qual : Str} {params : Arguments} {body : List Stmt} {scope : Scope} {dV kV doc pm cdv ct oc : Value} {an od : Option Addr} {osl : Array (Option Value)} {ds : List D} {os : Os} {Pd : D → Os → Prop}
    (hK : (KK w).lookup f = some ⟨oc, od, .func (fnOf name qual params body scope dV kV doc pm an cdv ct), osl⟩) (hcode : codeIn (KK w) cdv qual = true) (hok : okDef scope ps = true)
    (hbind : ∀ (s : Shared) (vs : List Value), Wd w s.heap → vs.length = ds.length → BindsTo s (fnOf name qual params body scope dV kV doc pm an cdv ct) ⟨vs, []⟩ (ps.zip vs))
    (h : ∀ env, env.scope = scope → XM w n env (rargs ps ds) os (execs body env) (fun f _ os' => (∃ d, f = .ret d ∧ Pd d os') ∨ (f = .nxt ∧ Pd .none os'))) : CallM w (n + 1) f ds os Pd := fun A s Z hb vs ao pre rd => by
  simp only [okDef, Bool.and_eq_true, Bool.not_eq_true', decide_eq_true_eq, List.all_eq_true, Bool.or_eq_true] at hok
  obtain ⟨⟨⟨⟨⟨h1, h2⟩, h3⟩, h4⟩, h5⟩, h6⟩ := hok
  refine codeAny_call_function (fd := fnOf name qual params body scope dV kV doc pm an cdv ct) (body := body) (by have := ao.dp; apply Ar.b6 <;> assumption) (pre.W.k _ _ hK) rfl h1 h2 rfl (codeRec_of pre.W.k hcode) (hbind s vs pre.W rd.len _ _ _ _ ?_)
  refine wpAny_newFunctionEnv_cells h3 (fun p hp => ?_) fun env' he s' x => ?_
  · have := h5 p.1 (List.of_mem_zip hp).1
    exact this.imp id fun e => ⟨e, cell_some e⟩
  · subst he
    refine ⟨pre.W.lim.keeps x.toInCall.keep, codeAny_func (wpAny_mono (body_ofM (fd := fnOf name qual params body scope dV kV doc pm an cdv ct) rfl rfl h6 h3 (fun p hp => by simpa using h4 p hp) (fun env hs _ => h env hs) ao pre rd x) (fun fl s' q => q) fun _ _ e => e.elim)⟩
theorem wview_ok {a b : D} : CallOK w (n + 2) 410 [a, b] (.inst 410 [("text", a), ("data", b)]) := by
  refine mkC (f := 379) rfl rfl rfl fun x dx => ?_
  refine call_fnM (ps := ["self", "text", "data"]) rfl rfl rfl (fun vs hl => ?_) (fun env hs => ?_)
  · obtain ⟨a, b, c, rfl⟩ := L3 hl; rfl
  refine XM.setA (pre := []) (post := []) rfl (YM.of (S.loc (kOf hs rfl) rfl rfl)) (S.loc (kOf hs rfl) rfl rfl) ⟨rfl, rfl, rfl, rfl⟩ rfl (Nat.le_of_ble_eq_true rfl) ?_
  refine XM.setA (pre := []) (post := []) rfl (YM.of (S.loc (kOf hs rfl) rfl rfl)) (S.loc (kOf hs rfl) rfl rfl) ⟨rfl, rfl, rfl, rfl⟩ rfl (Nat.le_of_ble_eq_true rfl) ?_
  exact XM.nil (.inr ⟨rfl, rfl, rfl⟩)
theorem look_ok {a b : D} : CallOK w (n + 2) 52 [a, b] (.inst 52 [("told", a), ("data", b)]) := by
  refine mkC (f := 42) rfl rfl rfl fun x dx => ?_
  refine call_fnM (ps := ["self", "told", "data"]) rfl rfl rfl (fun vs hl => ?_) (fun env hs => ?_)
  · obtain ⟨a, b, c, rfl⟩ := L3 hl; rfl
  refine XM.setA (pre := []) (post := []) rfl (YM.of (S.loc (kOf hs rfl) rfl rfl)) (S.loc (kOf hs rfl) rfl rfl) ⟨rfl, rfl, rfl, rfl⟩ rfl (Nat.le_of_ble_eq_true rfl) ?_
  refine XM.setA (pre := []) (post := []) rfl (YM.of (S.loc (kOf hs rfl) rfl rfl)) (S.loc (kOf hs rfl) rfl rfl) ⟨rfl, rfl, rfl, rfl⟩ rfl (Nat.le_of_ble_eq_true rfl) ?_
  exact XM.nil (.inr ⟨rfl, rfl, rfl⟩)
theorem breaker_ok {a b : D} : CallOK w (n + 2) 105 [a, b] (.inst 105 [("rule", a), ("look_back", b)]) := by
  refine mkC (f := 71) rfl rfl rfl fun x dx => ?_
  refine call_fnMD (ps := ["self", "rule", "look_back"]) rfl rfl rfl (fun s vs W hl => ?_) (fun env hs => ?_)
  · obtain ⟨a, b, c, rfl⟩ := L3 hl; exact BindsTo.of_defaults rfl (W.k 64 _ rfl) rfl rfl rfl
  refine XM.setA (pre := []) (post := []) rfl (YM.of (S.loc (kOf hs rfl) rfl rfl)) (S.loc (kOf hs rfl) rfl rfl) ⟨rfl, rfl, rfl, rfl⟩ rfl (Nat.le_of_ble_eq_true rfl) ?_
  refine XM.setA (pre := []) (post := []) rfl (YM.of (S.loc (kOf hs rfl) rfl rfl)) (S.loc (kOf hs rfl) rfl rfl) ⟨rfl, rfl, rfl, rfl⟩ rfl (Nat.le_of_ble_eq_true rfl) ?_
  exact XM.nil (.inr ⟨rfl, rfl, rfl⟩)
theorem Stat.cls {a : Addr} : Stat w (.fn a) (.ref a) := fun _ _ _ _ => rfl
theorem wbreak_ok (hT : TbOk T) {cs : List Int} (hc : TxOk T cs) {i : Nat} (hi : i ≤ cs.length) : CallOK w (n + 9) 442 [.lst (cs.map .int), .int i, dataD T.ms] (.bool (wrule T cs i)) := by
  refine call_fn (ps := ["text", "at", "data"]) rfl rfl rfl (fun vs hl => ?_) (fun env hs => ?_)
  · obtain ⟨a, b, c, rfl⟩ := L3 hl; rfl
  exact X.ret (S.callN rfl (S.glob (kOf hs rfl) rfl rfl (Stat.fn rfl)) (S.consA rfl (S.callN rfl (S.glob (kOf hs rfl) rfl rfl Stat.cls) (S.consA rfl (S.loc (kOf hs rfl) rfl rfl) (S.consA rfl (S.loc (kOf hs rfl) rfl rfl) Ys.nil)) (ArgsOk.cons rfl) (S.fnC rfl wview_ok)) (S.consA rfl (S.loc (kOf hs rfl) rfl rfl) Ys.nil)) (ArgsOk.cons rfl) (S.fnC rfl (wrule_ok hT hc hi))) (.inl rfl)
noncomputable def bsure (T : Tb) (l r : Int) : Bool :=
  if (T.cl l).w == "CR" && (T.cl r).w == "LF" then false
  else isIn WEnds (T.cl l).w || isIn WEnds (T.cl r).w
theorem bsure_ok (hT : TbOk T) {l r : Int} (hl : T.ok l) (hr : T.ok r) : CallOK w (n + 7) 28 [.int l, .int r, dataD T.ms] (.bool (bsure T l r)) := by
  refine call_fn (ps := ["before", "behind", "data"]) rfl rfl rfl (fun vs hl => ?_) (fun env hs => ?_)
  · obtain ⟨a, b, c, rfl⟩ := L3 hl; rfl
  refine X.tupSw (xs := ["one", "other"]) rfl (swOf hs rfl) (Y.tuple (S.consA rfl (S.meth rfl (S.loc (kOf hs rfl) rfl rfl) rfl ⟨rfl, rfl⟩ rfl rfl rfl ⟨_, rfl⟩ (S.consA rfl Y.str (S.consA rfl (S.loc (kOf hs rfl) rfl rfl) Ys.nil)) (ArgsOk.cons rfl) (get_w hT ?_)) (S.consA rfl (S.meth rfl (S.loc (kOf hs rfl) rfl rfl) rfl ⟨rfl, rfl⟩ rfl rfl rfl ⟨_, rfl⟩ (S.consA rfl Y.str (S.consA rfl (S.loc (kOf hs rfl) rfl rfl) Ys.nil)) (ArgsOk.cons rfl) (get_w hT ?_)) Ys.nil)) (by rw [sizeLine_eq]; exact Nat.le_of_ble_eq_true rfl)) (kAll hs rfl) rfl ?_
  · exact hl
  · exact hr
  refine X.ifs (YB.boolop (YB.and_cons (S.cmpB rfl (S.loc (kOf hs rfl) rfl rfl) Y.str (by first | with_reducible exact CmpOK.eqS | with_reducible exact CmpOK.eqI | with_reducible exact CmpOK.eqB | with_reducible exact CmpOK.eqLI | with_reducible exact CmpOK.eqLP | ktr_rel)) (fun hq => (YB.and_one (S.cmpB rfl (S.loc (kOf hs rfl) rfl rfl) Y.str (by first | with_reducible exact CmpOK.eqS | with_reducible exact CmpOK.eqI | with_reducible exact CmpOK.eqB | with_reducible exact CmpOK.eqLI | with_reducible exact CmpOK.eqLP | ktr_rel)))))) (fun c1 => X.ret Y.bool (.inl (rb (ip c1)))) (fun c1 => X.nil ?_)
  exact X.ret (Y.boolop (Y.or_cons (S.cmpV rfl (S.loc (kOf hs rfl) rfl rfl) (Y.tuple (S.consA rfl Y.str (S.consA rfl Y.str (S.consA rfl Y.str Ys.nil))) (by rw [sizeLine_eq]; exact Nat.le_of_ble_eq_true rfl)) (by first | exact CmpOK.inT rfl | with_reducible exact CmpOK.inLS | with_reducible exact CmpOK.inLI | ktr_rel)) (fun hq => (Y.bo_last (S.cmpV rfl (S.loc (kOf hs rfl) rfl rfl) (Y.tuple (S.consA rfl Y.str (S.consA rfl Y.str (S.consA rfl Y.str Ys.nil))) (by rw [sizeLine_eq]; exact Nat.le_of_ble_eq_true rfl)) (by first | exact CmpOK.inT rfl | with_reducible exact CmpOK.inLS | with_reducible exact CmpOK.inLI | ktr_rel)))))) (.inl (rb (iq c1 rfl)))
end
end Uni
namespace Uni
noncomputable abbrev breakerD (ru lk : D) : D := .inst 105 [("rule", ru), ("look_back", lk)]
noncomputable def isB (m : Nat) (p : Int) (b : Bool) : Bool :=
  if (m : Int) == 0 || (decide (p < 0) || decide ((m : Int) < p)) then false else p == 0 || (p == (m : Int) || b)
section
variable {w : World} {n : Nat} {T : Tb}
set_option maxHeartbeats 4000000
theorem isSure_ok {g : Addr} {l r : Int} {b : Bool} {dt : D} (hk : keepIn (KK w) (.ref g) = true) (hc : CallOK w n g [.int l, .int r, dt] (.bool b)) : CallOK w (n + 1) 49 [.inst 52 [("told", .fn g), ("data", dt)], .int l, .int r] (.bool b) := by
  refine call_fn (ps := ["self", "before", "behind"]) rfl rfl rfl (fun vs hl => ?_) (fun env hs => ?_)
  · obtain ⟨a, b, c, rfl⟩ := L3 hl; rfl
  exact X.ret (S.attrCall rfl (S.loc (kOf hs rfl) rfl rfl) rfl ⟨rfl, rfl⟩ rfl ⟨_, rfl⟩ (S.consA rfl (S.loc (kOf hs rfl) rfl rfl) (S.consA rfl (S.loc (kOf hs rfl) rfl rfl) (S.consA rfl (S.attr rfl (S.loc (kOf hs rfl) rfl rfl) rfl ⟨rfl, rfl⟩ rfl) Ys.nil))) (ArgsOk.cons rfl) (Callee.fn hk hc)) (.inl rfl)
theorem isb_ok {ru lk : D} {cs : List Int} {p : Int} {b : Bool} (hsl : cs.length ≤ sizeLine) (hru : 0 < p ∧ p < cs.length → Callee w n ru [.lst (cs.map .int), .int p] (.bool b)) : CallOK w (n + 1) 78 [breakerD ru lk, .lst (cs.map .int), .int p] (.bool (isB cs.length p b)) := by
  refine call_fn (ps := ["self", "text", "at"]) rfl rfl rfl (fun vs hl => ?_) (fun env hs => ?_)
  · obtain ⟨a, b, c, rfl⟩ := L3 hl; rfl
  refine X.ifs (YB.boolop (YB.or_cons (S.cmpB rfl (S.lenM (kOf hs rfl) rfl rfl (S.loc (kOf hs rfl) rfl rfl) ?_) Y.int (by first | with_reducible exact CmpOK.eqS | with_reducible exact CmpOK.eqI | with_reducible exact CmpOK.eqB | with_reducible exact CmpOK.eqLI | with_reducible exact CmpOK.eqLP | ktr_rel)) (fun hq => (YB.or_cons (S.cmpB rfl (S.loc (kOf hs rfl) rfl rfl) Y.int CmpOK.ltI) (fun hq => (YB.or_one (S.cmpB rfl (S.loc (kOf hs rfl) rfl rfl) (S.lenM (kOf hs rfl) rfl rfl (S.loc (kOf hs rfl) rfl rfl) ?_) CmpOK.gtI))))))) (fun c1 => ?_) (fun c1 => X.nil ?_)
  · exact hsl
  · exact hsl
  · exact X.ret Y.bool (.inl (rb (ip c1)))
  refine X.ret (Y.boolop (Y.or_cons (S.cmpV rfl (S.loc (kOf hs rfl) rfl rfl) Y.int (by first | with_reducible exact CmpOK.eqS | with_reducible exact CmpOK.eqI | with_reducible exact CmpOK.eqB | with_reducible exact CmpOK.eqLI | with_reducible exact CmpOK.eqLP | ktr_rel)) (fun hq => Y.or_cons (S.cmpV rfl (S.loc (kOf hs rfl) rfl rfl) (S.lenM (kOf hs rfl) rfl rfl (S.loc (kOf hs rfl) rfl rfl) ?_) (by first | with_reducible exact CmpOK.eqS | with_reducible exact CmpOK.eqI | with_reducible exact CmpOK.eqB | with_reducible exact CmpOK.eqLI | with_reducible exact CmpOK.eqLP | ktr_rel)) (fun hq2 => Y.bo_last (S.attrCall rfl (S.loc (kOf hs rfl) rfl rfl) rfl ⟨rfl, rfl⟩ rfl ⟨_, rfl⟩ (S.consA rfl (S.loc (kOf hs rfl) rfl rfl) (S.consA rfl (S.loc (kOf hs rfl) rfl rfl) Ys.nil)) (ArgsOk.cons rfl) (hru ?_)))))) (.inl (rb (iq c1 rfl)))
  · exact hsl
  · simp only [Bool.or_eq_false_iff, decide_eq_false_iff_not, beq_eq_false_iff_ne] at c1 hq hq2
    lia
noncomputable def bounds (m : Nat) (R : Nat → Bool) : List Nat := (List.range (m + 1)).filter fun i => isB m i (R i)
theorem boundaries_ok {ru lk : D} {cs : List Int} {R : Nat → Bool} (hsz : cs.length ≤ 1000) (hru : ∀ i : Nat, (0 < (i : Int) ∧ (i : Int) < cs.length) → Callee w n ru [.lst (cs.map .int), .int i] (.bool (R i))) :
    CallOK w (n + 2) 83 [breakerD ru lk, .lst (cs.map .int)] (.lst ((bounds cs.length R).map fun i : Nat => .int i)) := by
  have hsl : cs.length ≤ sizeLine := by rw [sizeLine_eq]; apply Ar.sz <;> assumption
  refine call_fn (ps := ["self", "text"]) rfl rfl rfl (fun vs hl => ?_) (fun env hs => ?_)
  · obtain ⟨a, b, rfl⟩ := L2 hl; rfl
  refine X.ret (d := .lst (((List.range (((cs.length : Int) + 1).toNat)).filter fun (i : Nat) => isB cs.length i (R i)).map fun i : Nat => .int i)) ?_ (.inl ?_)
  · refine Y.comp (p := fun (i : Nat) => isB cs.length i (R i)) (f := fun i : Nat => .int i) hs (Src.ofV (SrcV.range1 (b := (cs.length : Int) + 1) (kOf hs rfl) rfl rfl ?_ ?_)) rfl (fun _ => rfl) (by rw [sizeLine_eq]; apply Ar.s8 <;> assumption) (fun i hi env1 hs1 => YT.one ?_) (fun i hi hp env1 hs1 => ?_)
    · refine (Y.bin (S.lenM (kOf hs rfl) rfl rfl (S.cell (kOf hs rfl) rfl rfl) ?_) Y.int (by first | with_reducible exact BinOK.addI | ktr_rel))
      exact hsl
    · apply Ar.z3 <;> assumption
    · exact S.ofB rfl (S.meth rfl (S.cell (kOf hs1 rfl) rfl rfl) rfl ⟨rfl, rfl⟩ rfl rfl rfl ⟨_, rfl⟩ (S.consA rfl (S.cell (kOf hs1 rfl) rfl rfl) (S.consA rfl (S.loc (kOf hs1 rfl) rfl rfl) Ys.nil)) (ArgsOk.cons rfl) (isb_ok hsl (fun hp => hru i hp)))
    · exact S.loc (kOf hs1 rfl) rfl rfl
  · rw [show ((cs.length : Int) + 1).toNat = cs.length + 1 from Ar.tnA _]; rfl
noncomputable def boundsI (m : Nat) (R : Nat → Bool) : List Int := (bounds m R).map fun i : Nat => (i : Int)
noncomputable def pairsI (l : List Int) : List (Int × Int) := (List.range (l.length - 1)).map fun i => (l.getD i default, l.getD (i + 1) default)
theorem boundaries_okI {ru lk : D} {cs : List Int} {R : Nat → Bool} (hsz : cs.length ≤ 1000) (hru : ∀ i : Nat, (0 < (i : Int) ∧ (i : Int) < cs.length) → Callee w n ru [.lst (cs.map .int), .int i] (.bool (R i))) :
    CallOK w (n + 2) 83 [breakerD ru lk, .lst (cs.map .int)] (.lst ((boundsI cs.length R).map .int)) := by
  unfold boundsI
  rw [List.map_map]
  exact boundaries_ok hsz hru
theorem bounds_len (m : Nat) (R : Nat → Bool) : (boundsI m R).length ≤ m + 1 := by
  unfold boundsI bounds
  rw [List.length_map]
  have := List.length_filter_le (fun i => isB m (i : Nat) (R i)) (List.range (m + 1))
  rwa [List.length_range] at this
theorem segments_ok {ru lk : D} {cs : List Int} {R : Nat → Bool} (hsz : cs.length ≤ 1000) (hru : ∀ i : Nat, (0 < (i : Int) ∧ (i : Int) < cs.length) → Callee w n ru [.lst (cs.map .int), .int i] (.bool (R i))) :
    CallOK w (n + 3) 88 [breakerD ru lk, .lst (cs.map .int)] (.lst ((pairsI (boundsI cs.length R)).map prD)) := by
  have hbl := bounds_len cs.length R
  refine call_fn (ps := ["self", "text"]) rfl rfl rfl (fun vs hl => ?_) (fun env hs => ?_)
  · obtain ⟨a, b, rfl⟩ := L2 hl; rfl
  refine X.assign (S.meth rfl (S.loc (kOf hs rfl) rfl rfl) rfl ⟨rfl, rfl⟩ rfl rfl rfl ⟨_, rfl⟩ (S.consA rfl (S.loc (kOf hs rfl) rfl rfl) Ys.nil) (ArgsOk.cons rfl) (boundaries_okI hsz hru)) (.inl (kOf hs rfl)) rfl ?_
  generalize hB : boundsI cs.length R = B at hbl ⊢
  have hBs : B.length ≤ sizeLine := by rw [sizeLine_eq]; apply Ar.s3 <;> assumption
  have hk : min (B.map D.int).length (((B.drop (1 : Int).toNat)).map D.int).length = B.length - 1 := by
    rw [List.length_map, List.length_map, List.length_drop]; show min B.length (B.length - 1) = _; exact Ar.mp
  refine X.ret (d := .lst (((List.range (min (B.map D.int).length (((B.drop (1 : Int).toNat)).map D.int).length)).filter fun _ => true).map fun i : Nat => prD (B.getD i default, B.getD (i + 1) default))) ?_ (.inl ?_)
  · refine Y.comp (p := fun _ => true) (f := fun i : Nat => prD (B.getD i default, B.getD (i + 1) default)) hs (Src.zip (kOf hs rfl) rfl rfl rfl (S.loc (kOf hs rfl) rfl rfl) (S.fromM (k := 1) (S.loc (kOf hs rfl) rfl rfl) Y.int ⟨by decide, hBs⟩)) rfl (fun _ => rfl) (by rw [hk]; apply Ar.predE <;> assumption) (fun i hi env1 hs1 => YT.nil) (fun i hi hp env1 hs1 => ?_)
    have hi' : i < B.length - 1 := by rw [hk] at hi; exact hi
    have h1 : (B.map D.int).getD i .none = .int (B.getD i default) := getD_map_lt (by apply Ar.mq <;> assumption)
    have h2 : ((B.drop (1 : Int).toNat).map D.int).getD i .none = .int (B.getD (i + 1) default) := by
      rw [getD_map_lt (by rw [List.length_drop]; show i < B.length - 1; exact hi')]
      show D.int ((B.drop 1).getD i default) = _
      rw [List.getD_eq_getElem?_getD, List.getElem?_drop, List.getD_eq_getElem?_getD, Nat.add_comm]
    rw [h1, h2]
    exact (Y.tuple (S.consA rfl (S.loc (kOf hs1 rfl) rfl rfl) (S.consA rfl (S.loc (kOf hs1 rfl) rfl rfl) Ys.nil)) (by rw [sizeLine_eq]; exact Nat.le_of_ble_eq_true rfl))
  · rw [filter_tt, hk]
    unfold pairsI
    rw [List.map_map]; rfl
noncomputable def nextB (m : Nat) (R : Nat → Bool) (p : Nat) : Nat → Option Int
  | 0 => none
  | k + 1 => if isB m p (R p) then some (p : Int) else nextB m R (p + 1) k
noncomputable def prevB (m : Nat) (R : Nat → Bool) : Nat → Option Int
  | 0 => none
  | k + 1 => if isB m k (R k) then some (k : Int) else prevB m R k
theorem prev_ok {ru lk : D} {cs : List Int} {R : Nat → Bool} {p : Int} (hp : -1 ≤ p) (hsz : cs.length ≤ 1000) (hru : ∀ i : Nat, (0 < (i : Int) ∧ (i : Int) < cs.length) → Callee w n ru [.lst (cs.map .int), .int i] (.bool (R i))) :
    CallOK w (n + 2) 102 [breakerD ru lk, .lst (cs.map .int), .int p] (optI (prevB cs.length R ((min (p - 1) cs.length) + 1).toNat)) := by
  have hsl : cs.length ≤ sizeLine := by rw [sizeLine_eq]; apply Ar.sz <;> assumption
  refine call_fn (ps := ["self", "text", "at"]) rfl rfl rfl (fun vs hl => ?_) (fun env hs => ?_)
  · obtain ⟨a, b, c, rfl⟩ := L3 hl; rfl
  refine X.assign (S.min2 (kOf hs rfl) rfl rfl rfl (Y.bin (S.loc (kOf hs rfl) rfl rfl) Y.int BinOK.subI) (S.lenM (kOf hs rfl) rfl rfl (S.loc (kOf hs rfl) rfl rfl) ?_)) (.inl (kOf hs rfl)) rfl ?_
  · exact hsl
  have e0 : (if (cs.length : Int) < p - 1 then (cs.length : Int) else p - 1) = min (p - 1) cs.length := by split <;> (first | (apply Ar.w9 <;> assumption) | (apply Ar.w0 <;> assumption) | lia)
  rw [e0]
  refine X.whileI (fun j : Nat × Int => [("self", breakerD ru lk), ("text", .lst (cs.map .int)), ("place", .int j.2)])
    (fun m j => -2 ≤ j.2 ∧ m = (j.2 + 1).toNat ∧ prevB cs.length R m = prevB cs.length R ((min (p - 1) cs.length) + 1).toNat) ((min (p - 1) cs.length) + 1).toNat (0, min (p - 1) cs.length) ⟨by show -2 ≤ min (p - 1) _; apply Ar.y5 <;> assumption, rfl, rfl⟩ ⟨rfl, rfl, rfl, trivial⟩ ?_
  rintro m ⟨u, q⟩ ⟨g1, hm, g2⟩
  simp only at g1 hm
  refine ⟨_, (S.cmpB rfl (S.loc (kOf hs rfl) rfl rfl) Y.int CmpOK.geI), fun hb => ?_, fun hb => ?_⟩
  · have hq0 : 0 ≤ q := of_decide_eq_true hb
    obtain ⟨k, rfl⟩ : ∃ k : Nat, q = k := ⟨q.toNat, by apply Ar.w5 <;> assumption⟩
    obtain rfl : m = k + 1 := by lia
    rw [prevB] at g2
    refine X.ifs (S.ofB rfl (S.meth rfl (S.loc (kOf hs rfl) rfl rfl) rfl ⟨rfl, rfl⟩ rfl rfl rfl ⟨_, rfl⟩ (S.consA rfl (S.loc (kOf hs rfl) rfl rfl) (S.consA rfl (S.loc (kOf hs rfl) rfl rfl) Ys.nil)) (ArgsOk.cons rfl) (isb_ok hsl (fun hp => hru k hp)))) (fun c1 => ?_) (fun c1 => X.nil ?_)
    · rw [if_pos c1] at g2
      exact X.ret (S.loc (kOf hs rfl) rfl rfl) (.inl (by rw [← g2]; rfl))
    · rw [if_neg (ne_true_of_eq_false c1)] at g2
      refine X.subI (.inl (kOf hs rfl)) rfl Y.int (Y.ldLoc (kOf hs rfl) rfl) ?_
      exact X.nil ⟨k, (0, (k : Int) - 1), by lia, ⟨by show -2 ≤ (k : Int) - 1; lia, by show k = ((k : Int) - 1 + 1).toNat; lia, g2⟩, rfl, rfl, rfl, trivial⟩
  · have hq0 : ¬ 0 ≤ q := of_decide_eq_false hb
    obtain rfl : m = 0 := by lia
    exact X.ret Y.none (.inl (by rw [← g2]; rfl))
theorem rset_le {r r' : Rho} (h : ∀ x d, r' x = some d → r x = some d) (y : Str) (e : D) : ∀ x d, rset r' y e x = some d → rset r y e x = some d := fun x d q => by
  unfold rset at q ⊢
  split
  · rename_i c; rw [if_pos c] at q; exact q
  · rename_i c; rw [if_neg c] at q; exact h x d q
theorem next_ok {ru lk : D} {cs : List Int} {R : Nat → Bool} {p : Int} (hp : -1 ≤ p ∧ p ≤ 2000) (hsz : cs.length ≤ 1000) (hru : ∀ i : Nat, (0 < (i : Int) ∧ (i : Int) < cs.length) → Callee w n ru [.lst (cs.map .int), .int i] (.bool (R i))) :
    CallOK w (n + 2) 95 [breakerD ru lk, .lst (cs.map .int), .int p] (optI (nextB cs.length R (p + 1).toNat (cs.length + 1 - (p + 1).toNat))) := by
  have hsl : cs.length ≤ sizeLine := by rw [sizeLine_eq]; apply Ar.sz <;> assumption
  refine call_fn (ps := ["self", "text", "at"]) rfl rfl rfl (fun vs hl => ?_) (fun env hs => ?_)
  · obtain ⟨a, b, c, rfl⟩ := L3 hl; rfl
  have e0 : (if (0 : Int) > p + 1 then (0 : Int) else p + 1) = ((p + 1).toNat : Nat) := by split <;> lia
  have ek : ((cs.length : Int) + 1 - ((p + 1).toNat : Nat)).toNat = cs.length + 1 - (p + 1).toNat := by exact Ar.b7
  refine forX (k := ((cs.length : Int) + 1 - ((p + 1).toNat : Nat)).toNat) (gs := fun i => .int (((p + 1).toNat : Nat) + i)) (SrcV.range2 (kOf hs rfl) rfl rfl rfl ?_ ?_ ?_) (.inl (kOf hs rfl)) (fun _ => rfl)
    (fun i r1 => (∀ x d, rl [("self", breakerD ru lk), ("text", .lst (cs.map .int))] x = some d → r1 x = some d) ∧ nextB cs.length R ((p + 1).toNat + i) (cs.length + 1 - (p + 1).toNat - i) = nextB cs.length R (p + 1).toNat (cs.length + 1 - (p + 1).toNat))
    ⟨rle_of ⟨rfl, rfl, trivial⟩, rfl⟩ (fun i r1 hi hI => ?_) (fun r1 hI => ?_)
  · rw [← e0]; exact (S.max2 (kOf hs rfl) rfl rfl rfl (Y.bin (S.loc (kOf hs rfl) rfl rfl) Y.int (by first | with_reducible exact BinOK.addI | ktr_rel)) Y.int)
  · refine (Y.bin (S.lenM (kOf hs rfl) rfl rfl (S.loc (kOf hs rfl) rfl rfl) ?_) Y.int (by first | with_reducible exact BinOK.addI | ktr_rel))
    exact hsl
  · apply Ar.z5 <;> assumption
  · obtain ⟨k, hk⟩ : ∃ k : Nat, k = (p + 1).toNat + i := ⟨_, rfl⟩
    refine X.weak (rset_le hI.1 "place" _) ?_
    rw [show (((p + 1).toNat : Nat) : Int) + i = (k : Int) by lia]
    obtain ⟨j, hj⟩ : ∃ j, cs.length + 1 - (p + 1).toNat - i = j + 1 := ⟨cs.length + 1 - (p + 1).toNat - i - 1, by apply Ar.b8 <;> assumption⟩
    have hI2 := hI.2
    rw [← hk, hj, nextB] at hI2
    refine X.ifs (S.ofB rfl (S.meth rfl (S.loc (kOf hs rfl) rfl rfl) rfl ⟨rfl, rfl⟩ rfl rfl rfl ⟨_, rfl⟩ (S.consA rfl (S.loc (kOf hs rfl) rfl rfl) (S.consA rfl (S.loc (kOf hs rfl) rfl rfl) Ys.nil)) (ArgsOk.cons rfl) (isb_ok hsl (fun hp => hru k hp)))) (fun c1 => ?_) (fun c1 => X.nil (X.nil ⟨?_, ?_⟩))
    · rw [if_pos c1] at hI2
      exact X.ret (S.loc (kOf hs rfl) rfl rfl) (.inl (by rw [← hI2]; rfl))
    · exact rle_of ⟨rfl, rfl, trivial⟩
    · rw [if_neg (ne_true_of_eq_false c1)] at hI2
      rw [← hI2, hk, show cs.length + 1 - (p + 1).toNat - (i + 1) = j by apply Ar.b5 <;> assumption, Nat.add_assoc]
  · have hI2 := hI.2
    rw [ek, Nat.sub_self] at hI2
    exact X.ret Y.none (.inl (by rw [← hI2]; rfl))
end
end Uni
namespace Uni
theorem filter_range_ge (q : Nat) : ∀ n, (List.range n).filter (fun i => decide (q ≤ i)) = List.range' q (n - q)
  | 0 => by simp
  | n + 1 => by
    rw [List.range_succ, List.filter_append, filter_range_ge q n]
    by_cases h : q ≤ n
    · rw [show n + 1 - q = (n - q) + 1 by apply Ar.y7 <;> assumption, List.range'_concat]
      simp [h, show q + (n - q) = n by apply Ar.as2 <;> assumption]
    · rw [show n + 1 - q = 0 by apply Ar.y6 <;> assumption, show n - q = 0 by apply Ar.r7 <;> assumption]
      simp [h]
theorem filter_range_lt (q : Nat) : ∀ n, (List.range n).filter (fun i => decide (i < q)) = List.range (min q n)
  | 0 => by simp
  | n + 1 => by
    rw [List.range_succ, List.filter_append, filter_range_lt q n]
    by_cases h : n < q
    · rw [show min q (n + 1) = n + 1 by lia, show min q n = n by apply Ar.l5 <;> assumption, List.range_succ]
      simp [h]
    · rw [show min q (n + 1) = min q n by lia]
      simp [h]
theorem nextB_eq (m : Nat) (R : Nat → Bool) : ∀ k q, nextB m R q k = (((List.range' q k).filter fun i : Nat => isB m i (R i)).map fun i : Nat => (i : Int)).head?
  | 0, q => rfl
  | k + 1, q => by
    rw [nextB, List.range'_succ, List.filter_cons]
    by_cases h : isB m q (R q) = true
    · rw [if_pos h, if_pos h]; rfl
    · rw [if_neg h, if_neg h]; exact nextB_eq m R k (q + 1)
theorem filter_comm' {α : Type} (p q : α → Bool) (l : List α) : (l.filter p).filter q = (l.filter q).filter p := by
  rw [List.filter_filter, List.filter_filter]
  refine List.filter_congr fun x _ => Bool.and_comm _ _
theorem next_pure (m : Nat) (R : Nat → Bool) {p : Int} (hp : -1 ≤ p) : nextB m R (p + 1).toNat (m + 1 - (p + 1).toNat) = ((boundsI m R).filter fun x => decide (p < x)).head? := by
  rw [nextB_eq, ← filter_range_ge, filter_comm']
  unfold boundsI bounds
  rw [List.filter_map]
  congr 2
  refine List.filter_congr fun i _ => ?_
  show decide ((p + 1).toNat ≤ i) = decide (p < (i : Int))
  rw [decide_eq_decide]; exact Ar.w1
theorem prevB_eq (m : Nat) (R : Nat → Bool) : ∀ k, prevB m R k = (((List.range k).filter fun i : Nat => isB m i (R i)).map fun i : Nat => (i : Int)).getLast?
  | 0 => rfl
  | k + 1 => by
    rw [prevB, List.range_succ, List.filter_append, List.map_append, List.getLast?_append]
    by_cases h : isB m k (R k) = true
    · rw [if_pos h]; simp [h]
    · rw [if_neg h, prevB_eq m R k]; simp [h]
theorem prev_pure (m : Nat) (R : Nat → Bool) {p : Int} (hp : -1 ≤ p) : prevB m R ((min (p - 1) m) + 1).toNat = ((boundsI m R).filter fun x => decide (x < p)).getLast? := by
  rw [prevB_eq, show ((min (p - 1) m) + 1).toNat = min p.toNat (m + 1) by lia, ← filter_range_lt, filter_comm']
  unfold boundsI bounds
  rw [List.filter_map]
  congr 2
  refine List.filter_congr fun i hi => ?_
  have := (List.mem_filter.mp hi).1
  show decide (i < p.toNat) = decide ((i : Int) < p)
  rw [decide_eq_decide]; exact Ar.w8
theorem isB_pure (m : Nat) (R : Nat → Bool) (p : Int) (b : Bool) (hb : 0 < p ∧ p < m → b = R p.toNat) : isB m p b = (boundsI m R).any (· == p) := by
  rw [Bool.eq_iff_iff, List.any_eq_true]
  unfold boundsI bounds
  simp only [List.mem_map, List.mem_filter, List.mem_range, beq_iff_eq]
  constructor
  · intro h
    have h0 : 0 ≤ p ∧ p ≤ m := by
      unfold isB at h
      split at h
      · cases h
      · rename_i c
        simp only [Bool.or_eq_true, beq_iff_eq, decide_eq_true_eq] at c
        lia
    obtain ⟨k, rfl⟩ : ∃ k : Nat, p = k := ⟨p.toNat, by apply Ar.w4 <;> assumption⟩
    refine ⟨k, ⟨k, ⟨by lia, ?_⟩, rfl⟩, rfl⟩
    by_cases c : 0 < (k : Int) ∧ (k : Int) < m
    · have := hb c
      rw [Int.toNat_natCast] at this
      rw [← this]; exact h
    · unfold isB at h ⊢
      by_cases c0 : k = 0
      · subst c0; simpa using h
      · have : k = m := by lia
        subst this; simpa using h
  · rintro ⟨x, ⟨k, ⟨h1, h2⟩, rfl⟩, rfl⟩
    by_cases c : 0 < (k : Int) ∧ (k : Int) < m
    · have := hb c
      rw [Int.toNat_natCast] at this
      rw [this]; exact h2
    · unfold isB at h2 ⊢
      by_cases c0 : k = 0
      · subst c0; simpa using h2
      · have : k = m := by lia
        subst this; simpa using h2
theorem any_mem {l : List Int} {p : Int} : (l.any (· == p)) = true ↔ p ∈ l := by
  rw [List.any_eq_true]
  simp
end Uni
namespace Uni
section
variable {w : World} {n : Nat} {T : Tb}
set_option maxHeartbeats 4000000
theorem Callee.le {m : Nat} {df d : D} {ds : List D} (h : Callee w n df ds d) (hm : n ≤ m) : Callee w m df ds d := ⟨h.keep, fun A s Z v vs ao => h.run A s Z v vs (ao.le hm)⟩
theorem CallOK.le {m : Nat} {f : Addr} {d : D} {ds : List D} (h : CallOK w n f ds d) (hm : n ≤ m) : CallOK w m f ds d := fun A s Z vs ao => h A s Z vs (ao.le hm)
inductive LookIs (w : World) (n : Nat) (T : Tb) : D → (Int → Int → Bool) → Prop
  | none : LookIs w n T .none (fun _ _ => false)
  | some {d U} : isNone d = false → (match d with | .any => False | _ => True) → (∀ l r, T.ok l → T.ok r → Callee w n d [.int l, .int r] (.bool (U l r))) → LookIs w n T d U
noncomputable def sureI (cs : List Int) (U : Int → Int → Bool) : List Int := ((List.range (cs.length - 1)).filter fun i => U (cs.getD i default) (cs.getD (i + 1) default)).map fun i : Nat => 1 + (i : Int)
theorem TxOk.take {cs : List Int} (h : TxOk T cs) (k : Nat) : TxOk T (cs.take k) :=
  ⟨fun c hc => h.ok c (List.mem_of_mem_take hc), by have := h.sz; rw [List.length_take]; apply Ar.x6 <;> assumption⟩
theorem TxOk.drop {cs : List Int} (h : TxOk T cs) (k : Nat) : TxOk T (cs.drop k) :=
  ⟨fun c hc => h.ok c (List.mem_of_mem_drop hc), by have := h.sz; rw [List.length_drop]; apply Ar.x5 <;> assumption⟩
theorem due_rule {cs : List Int} {R : Nat → Bool} (h0 : R 0 = decide (0 < cs.length)) (h1 : R cs.length = decide (0 < cs.length)) : (List.range (cs.length + 1)).filter R = bounds cs.length R := by
  unfold bounds
  refine List.filter_congr fun i hi => ?_
  have hi : i ≤ cs.length := by have := List.mem_range.mp hi; apply Ar.x4 <;> assumption
  unfold isB
  by_cases c : cs.length = 0
  · have : i = 0 := by lia
    subst this
    have e : ((cs.length : Int) == 0) = true := by rw [beq_iff_eq]; lia
    rw [h0, decide_eq_false (by lia), e]; rfl
  · have hcnd : ((cs.length : Int) == 0 || (decide ((i : Int) < 0) || decide ((cs.length : Int) < (i : Int)))) = false := by
      simp only [Bool.or_eq_false_iff, beq_eq_false_iff_ne, decide_eq_false_iff_not]; lia
    rw [if_neg (by rw [hcnd]; decide)]
    by_cases c0 : i = 0
    · subst c0; rw [h0, decide_eq_true (by apply Ar.n0' <;> assumption)]; rfl
    · by_cases c1 : i = cs.length
      · subst c1; rw [h1, decide_eq_true (by apply Ar.n0' <;> assumption)]; simp
      · have e1 : ((i : Int) == 0) = false := by rw [beq_eq_false_iff_ne]; lia
        have e2 : ((i : Int) == (cs.length : Int)) = false := by rw [beq_eq_false_iff_ne]; lia
        rw [e1, e2]; rfl
theorem told_ok {ru lk : D} {cs : List Int} {R : List Int → Nat → Bool} {U : Int → Int → Bool} {p : Int} (hp : -1 ≤ p ∧ p ≤ 2000) (hc : TxOk T cs) (hL : LookIs w n T lk U)
    (hru : ∀ ds, TxOk T ds → ∀ i : Nat, i ≤ ds.length → Callee w n ru [.lst (ds.map .int), .int i] (.bool (R ds i)))
    (hE : R cs 0 = decide (0 < cs.length) ∧ R cs cs.length = decide (0 < cs.length))
    (hS : ∀ k ∈ sureI cs U, k ∈ boundsI cs.length (R cs))
    (hS2 : ∀ k ∈ sureI cs U, boundsI (cs.take k.toNat).length (R (cs.take k.toNat)) ++ ((boundsI (cs.drop k.toNat).length (R (cs.drop k.toNat))).drop 1).map (fun q => k + q) = boundsI cs.length (R cs)) :
    CallOK w (n + 5) 507 [ru, lk, .lst (cs.map .int), .lst ((boundsI cs.length (R cs)).map .int), .int p] (.bool true) := by
  refine call_fn (ps := ["rule", "look", "text", "due", "at"]) rfl rfl rfl (fun vs hl => ?_) (fun env hs => ?_)
  · obtain ⟨a, b, c, d, e, rfl⟩ := L5 hl; rfl
  have hsl := hc.sl
  have hsz := hc.sz
  refine X.assign (S.lenM (kOf hs rfl) rfl rfl (S.cell (kOf hs rfl) rfl rfl) ?_) (.inl (kOf hs rfl)) rfl ?_
  · exact hsl
  refine X.assign (S.callN rfl (S.glob (kOf hs rfl) rfl rfl Stat.cls) (S.consA rfl (S.cell (kOf hs rfl) rfl rfl) (S.consA rfl (S.cell (kOf hs rfl) rfl rfl) Ys.nil)) (ArgsOk.cons rfl) (S.fnC rfl breaker_ok)) (.inl (kOf hs rfl)) rfl ?_
  have hdue : (List.range (cs.length + 1)).filter (R cs) = bounds cs.length (R cs) := due_rule hE.1 hE.2
  refine X.ifs (b := (((((List.range (((cs.length : Int) + 1).toNat)).filter (R cs)).map fun i : Nat => (i : Int)) != boundsI cs.length (R cs)) || (boundsI cs.length (R cs) != boundsI cs.length (R cs)))) ?_ (fun h => ?_) (fun _ => X.nil ?_)
  · refine YB.boolop (YB.or_cons (S.cmpB rfl ?_ (S.cell (kOf hs rfl) rfl rfl) CmpOK.neLI) (fun hq => YB.or_one (S.cmpB rfl (S.meth rfl (S.loc (kOf hs rfl) rfl rfl) rfl ⟨rfl, rfl⟩ rfl rfl rfl ⟨_, rfl⟩ (S.consA rfl (S.cell (kOf hs rfl) rfl rfl) Ys.nil) (ArgsOk.cons rfl) (boundaries_okI (n := n + 2) hc.sz (fun i hi => (hru cs hc i (by apply Ar.e4 <;> assumption)).le (by lia)))) (S.cell (kOf hs rfl) rfl rfl) (by first | with_reducible exact CmpOK.neS | with_reducible exact CmpOK.neI | with_reducible exact CmpOK.neB | with_reducible exact CmpOK.neLI0 | with_reducible exact CmpOK.neLI | with_reducible exact CmpOK.neO | ktr_rel))))
    rw [List.map_map]
    refine Y.comp (p := R cs) (f := fun i : Nat => .int i) hs (Src.ofV (SrcV.range1 (b := (cs.length : Int) + 1) (kOf hs rfl) rfl rfl (Y.bin (S.loc (kOf hs rfl) rfl rfl) Y.int (by first | with_reducible exact BinOK.addI | ktr_rel)) ?_)) rfl (fun _ => rfl) (by rw [sizeLine_eq]; apply Ar.s8 <;> assumption) (fun i hi env1 hs1 => YT.one ?_) (fun i hi hp env1 hs1 => ?_)
    · apply Ar.z3 <;> assumption
    · exact (S.ofB rfl (S.callN rfl (S.cell (kOf hs1 rfl) rfl rfl) (S.consA rfl (S.cell (kOf hs1 rfl) rfl rfl) (S.consA rfl (S.loc (kOf hs1 rfl) rfl rfl) Ys.nil)) (ArgsOk.cons rfl) ((hru cs hc i (by apply Ar.x3 <;> assumption)).le (by lia))))
    · exact S.loc (kOf hs1 rfl) rfl rfl
  · rw [show ((cs.length : Int) + 1).toNat = cs.length + 1 from Ar.tnA _, hdue] at h
    simp [boundsI] at h
  refine asgComp (p := fun i => U (cs.getD i default) (cs.getD (i + 1) default)) (f := fun i : Nat => .int (1 + (i : Int))) hs (Src.ofV (SrcV.range2 (a := 1) (b := (cs.length : Int)) (kOf hs rfl) rfl rfl rfl Y.int (S.loc (kOf hs rfl) rfl rfl) ?_)) rfl (swsOf hs rfl) (.inl (kOf hs rfl)) (fun _ => rfl) (by rw [sizeLine_eq]; apply Ar.s5 <;> assumption) (fun i hi env1 hs1 => YT.one ?_) (fun i hi hp env1 hs1 => ?_) ?_
  · apply Ar.z4 <;> assumption
  · have e : U (cs.getD i default) (cs.getD (i + 1) default) = U (cs.getD ((1 + (i : Int)) - 1).toNat default) (cs.getD (1 + (i : Int)).toNat default) := by
      rw [show ((1 + (i : Int)) - 1).toNat = i from Ar.tn11 _, show (1 + (i : Int)).toNat = i + 1 from Ar.tn1 _]
    rw [e]
    clear e
    cases hL with
    | none =>
      refine YB.boolop (YB.and_cons (a := false) (b := false) (S.cmpB rfl (S.cell (kOf hs1 rfl) rfl rfl) Y.none (CmpOK.isNotN trivial)) (fun hq => by cases hq))
    | some hn ha hU =>
      refine YB.boolop (YB.and_cons (a := true) (b := U _ _) ?_ (fun hq => YB.and_one (S.ofB rfl (S.callN rfl (S.cell (kOf hs1 rfl) rfl rfl) (S.consA rfl (S.item (S.cell (kOf hs1 rfl) rfl rfl) (Y.bin (S.loc (kOf hs1 rfl) rfl rfl) Y.int BinOK.subI) (ItemIs.map ?_) (fun _ _ => rfl)) (S.consA rfl (S.item (S.cell (kOf hs1 rfl) rfl rfl) (S.loc (kOf hs1 rfl) rfl rfl) (ItemIs.map ?_) (fun _ _ => rfl)) Ys.nil)) (ArgsOk.cons rfl) ((hU _ _ ?_ ?_).le (by lia))))))
      · have := CmpOK.isNotN (w := w) (n := n + 4) ha
        rw [hn] at this
        exact S.cmpB rfl (S.cell (kOf hs1 rfl) rfl rfl) Y.none this
      · exact ⟨by lia, by apply Ar.c2 <;> assumption, hsl⟩
      · exact ⟨by apply Ar.nn1 <;> assumption, by apply Ar.c1 <;> assumption, hsl⟩
      · exact hc.at (by apply Ar.c3 <;> assumption)
      · exact hc.at (by apply Ar.c4 <;> assumption)
  · exact S.loc (kOf hs1 rfl) rfl rfl
  have hvS : (List.range ((cs.length : Int) - 1).toNat) = List.range (cs.length - 1) := by rw [show ((cs.length : Int) - 1).toNat = cs.length - 1 from Ar.tnS _]
  have hsure : (D.lst (((List.range ((cs.length : Int) - 1).toNat).filter fun i => U (cs.getD i default) (cs.getD (i + 1) default)).map fun i : Nat => D.int (1 + (i : Int)))) = .lst ((sureI cs U).map .int) := by
    rw [hvS]; unfold sureI; rw [List.map_map]; rfl
  rw [hsure]
  have hsl2 : (sureI cs U).length ≤ sizeLine := by
    unfold sureI; rw [List.length_map]
    exact Nat.le_trans (List.length_filter_le _ _) (by rw [List.length_range]; apply Ar.predE <;> assumption)
  have hsmem : ∀ k ∈ sureI cs U, 1 ≤ k ∧ k < cs.length := fun k hk => by
    unfold sureI at hk
    obtain ⟨i, hi, rfl⟩ := List.mem_map.mp hk
    have := List.mem_range.mp (List.mem_filter.mp hi).1
    apply Ar.b9 <;> assumption
  have hbl := bounds_len cs.length (R cs)
  have hbsl : (boundsI cs.length (R cs)).length ≤ sizeLine := by rw [sizeLine_eq]; apply Ar.s3 <;> assumption
  generalize hB : boundsI cs.length (R cs) = B at *
  refine X.ifs (b := (((sureI cs U).filter fun k => !(B.any (· == k))).map fun k : Int => k) != []) ?_ (fun h => ?_) (fun _ => X.nil ?_)
  · refine S.cmpB rfl (Y.compG (its := sureI cs U) (g := D.int) (q := fun k => !(B.any (· == k))) D.int (fun k : Int => k) hs (S.loc (kOf hs rfl) rfl rfl) rfl (fun _ => rfl) hsl2 (fun k hk env1 hs1 => YT.one ?_) (fun k hk hq env1 hs1 => ?_)) (Y.list Ys.nil (by rw [sizeLine_eq]; exact Nat.le_of_ble_eq_true rfl)) CmpOK.neLI0
    · exact S.cmpB rfl (S.loc (kOf hs1 rfl) rfl rfl) (S.cell (kOf hs1 rfl) rfl rfl) CmpOK.ninLI
    · exact S.loc (kOf hs1 rfl) rfl rfl
  · have : (sureI cs U).filter (fun k => !(B.any (· == k))) = [] := by
      rw [List.filter_eq_nil_iff]
      intro k hk
      rw [any_mem.mpr (hS k hk)]; decide
    rw [this] at h; cases h
  refine forX (k := (((sureI cs U).take (1 : Int).toNat).map D.int).length) (gs := fun i => (((sureI cs U).take (1 : Int).toNat).map D.int).getD i .none) (SrcV.list (S.toM (k := 1) (S.loc (kOf hs rfl) rfl rfl) Y.int ⟨by decide, hsl2⟩)) (.inr (kOf hs rfl)) (fun _ => rfl)
    (fun i r1 => ∀ x d, rl [("rule", ru), ("look", lk), ("text", .lst (cs.map .int)), ("due", .lst (B.map .int)), ("at", .int p), ("breaker", breakerD ru lk)] x = some d → r1 x = some d)
    (rle_of ⟨rfl, rfl, rfl, rfl, rfl, rfl, trivial⟩) (fun i r1 hi hI => ?_) (fun r1 hI => ?_)
  · refine X.weak (rset_le hI "k" _) ?_
    rw [List.length_map] at hi
    rw [getD_map_lt hi]
    have hkm := List.mem_of_mem_take (getD_mem hi)
    generalize (((sureI cs U).take (1 : Int).toNat).getD i default) = kk at hkm
    have hkk := hsmem kk hkm
    have hb1 := bounds_len (cs.take kk.toNat).length (R (cs.take kk.toNat))
    have hb2 := bounds_len (cs.drop kk.toNat).length (R (cs.drop kk.toNat))
    rw [List.length_take] at hb1
    rw [List.length_drop] at hb2
    have hT1 := hc.take (T := T) kk.toNat
    have hT2 := hc.drop (T := T) kk.toNat
    have hpart := hS2 kk hkm
    refine X.ifs (b := (boundsI (cs.take kk.toNat).length (R (cs.take kk.toNat)) ++ ((boundsI (cs.drop kk.toNat).length (R (cs.drop kk.toNat))).drop (1 : Int).toNat).map (fun q => kk + q)) != B) ?_ (fun h => ?_) (fun _ => X.nil (X.nil ?_))
    · refine S.cmpB rfl (Y.bin ?_ ?_ (BinOK.addM ?_)) (S.cell (kOf hs rfl) rfl rfl) CmpOK.neLI
      · refine S.meth rfl (S.loc (kOf hs rfl) rfl rfl) rfl ⟨rfl, rfl⟩ rfl rfl rfl ⟨_, rfl⟩ (S.consA rfl (S.toM (k := kk) (S.cell (kOf hs rfl) rfl rfl) (S.cell (kOf hs rfl) rfl rfl) ⟨by apply Ar.x9 <;> assumption, hsl⟩) Ys.nil) (ArgsOk.cons rfl) (boundaries_okI (n := n + 2) (R := R (cs.take kk.toNat)) hT1.sz (fun i hi => (hru _ hT1 i (by apply Ar.e4 <;> assumption)).le (by lia)))
      · refine Y.compG0 (its := (boundsI (cs.drop kk.toNat).length (R (cs.drop kk.toNat))).drop (1 : Int).toNat) (g := D.int) D.int (fun q : Int => kk + q) hs (S.fromM (k := 1) (S.meth rfl (S.loc (kOf hs rfl) rfl rfl) rfl ⟨rfl, rfl⟩ rfl rfl rfl ⟨_, rfl⟩ (S.consA rfl (S.fromM (k := kk) (S.cell (kOf hs rfl) rfl rfl) (S.cell (kOf hs rfl) rfl rfl) ⟨by apply Ar.x9 <;> assumption, hsl⟩) Ys.nil) (ArgsOk.cons rfl) (boundaries_okI (n := n + 2) (R := R (cs.drop kk.toNat)) hT2.sz (fun i hi => (hru _ hT2 i (by apply Ar.e4 <;> assumption)).le (by lia)))) Y.int ⟨by decide, ?_⟩) rfl (fun _ => rfl) ?_ (fun q hq env1 hs1 => ?_)
        · rw [sizeLine_eq, List.length_drop]; apply Ar.s1 <;> assumption
        · rw [sizeLine_eq, List.length_drop, List.length_drop]; apply Ar.s2 <;> assumption
        · exact Y.bin (S.cell (kOf hs1 rfl) rfl rfl) (S.loc (kOf hs1 rfl) rfl rfl) BinOK.addI
      · rw [sizeLine_eq, List.length_map, List.length_drop, List.length_take, List.length_drop]; show _ + (_ - 1) ≤ _; apply Ar.m7 <;> assumption
    · exfalso
      have e : (boundsI (cs.take kk.toNat).length (R (cs.take kk.toNat)) ++ ((boundsI (cs.drop kk.toNat).length (R (cs.drop kk.toNat))).drop (1 : Int).toNat).map (fun q => kk + q)) = B := hpart
      rw [e] at h
      simp at h
    · exact rle_of ⟨rfl, rfl, rfl, rfl, rfl, rfl, trivial⟩
  refine X.weak hI ?_
  have hlf : ∀ q : Int → Bool, (B.filter q).length ≤ sizeLine := fun q => Nat.le_trans (List.length_filter_le _ _) hbsl
  refine X.tupSw (xs := ["later", "ahead"]) rfl (swOf hs rfl) (Y.tuple (S.consA rfl (d := .lst ((B.filter fun x => decide (p < x)).map .int)) ?_ (S.consA rfl (d := .lst ((B.filter fun x => decide (x < p)).map .int)) ?_ Ys.nil)) (by rw [sizeLine_eq]; exact Nat.le_of_ble_eq_true rfl)) (kAll hs rfl) rfl ?_
  · rw [show (B.filter fun x => decide (p < x)) = (B.filter fun x => decide (p < x)).map (fun x : Int => x) from (List.map_id' _).symm]
    exact Y.compG (its := B) (g := D.int) (q := fun x => decide (p < x)) D.int (fun x : Int => x) hs (S.cell (kOf hs rfl) rfl rfl) rfl (fun _ => rfl) hbsl (fun x hx env1 hs1 => YT.one (S.cmpB rfl (S.loc (kOf hs1 rfl) rfl rfl) (S.cell (kOf hs1 rfl) rfl rfl) CmpOK.gtI)) (fun x hx hq env1 hs1 => (S.loc (kOf hs1 rfl) rfl rfl))
  · rw [show (B.filter fun x => decide (x < p)) = (B.filter fun x => decide (x < p)).map (fun x : Int => x) from (List.map_id' _).symm]
    exact Y.compG (its := B) (g := D.int) (q := fun x => decide (x < p)) D.int (fun x : Int => x) hs (S.cell (kOf hs rfl) rfl rfl) rfl (fun _ => rfl) hbsl (fun x hx env1 hs1 => YT.one (S.cmpB rfl (S.loc (kOf hs1 rfl) rfl rfl) (S.cell (kOf hs1 rfl) rfl rfl) CmpOK.ltI)) (fun x hx hq env1 hs1 => (S.loc (kOf hs1 rfl) rfl rfl))
  have hnx := next_pure cs.length (R cs) hp.1
  have hpv := prev_pure cs.length (R cs) hp.1
  rw [hB] at hnx hpv
  have hruC : ∀ i : Nat, (0 < (i : Int) ∧ (i : Int) < cs.length) → Callee w (n + 2) ru [.lst (cs.map .int), .int i] (.bool (R cs i)) := fun i hi => (hru cs hc i (by apply Ar.e4 <;> assumption)).le (by lia)
  have hlf1 := hlf fun x => decide (p < x)
  have hlf2 := hlf fun x => decide (x < p)
  generalize (B.filter fun x => decide (p < x)) = L1 at *
  generalize (B.filter fun x => decide (x < p)) = L2 at *
  refine X.ifs (b := L1.head? != L1.head?) ?_ (fun h => ?_) (fun _ => X.nil ?_)
  · refine S.cmpB rfl (a := optI L1.head?) (b := optI L1.head?) ?_ ?_ CmpOK.neO
    · rw [← hnx]
      exact S.meth rfl (S.loc (kOf hs rfl) rfl rfl) rfl ⟨rfl, rfl⟩ rfl rfl rfl ⟨_, rfl⟩ (S.consA rfl (S.cell (kOf hs rfl) rfl rfl) (S.consA rfl (S.cell (kOf hs rfl) rfl rfl) Ys.nil)) (ArgsOk.cons rfl) (next_ok (n := n + 2) hp hsz hruC)
    · refine Y.ifexp (b := L1 != []) (S.cmpB rfl (S.loc (kOf hs rfl) rfl rfl) (Y.list Ys.nil (by rw [sizeLine_eq]; exact Nat.le_of_ble_eq_true rfl)) CmpOK.neLI0) (fun h => ?_) (fun h => ?_)
      · cases L1 with
        | nil => cases h
        | cons x L1 => exact Y.itemL (l := (x :: L1).map .int) (S.loc (kOf hs rfl) rfl rfl) Y.int (by decide) (by decide) rfl (fun _ _ => rfl)
      · have : L1 = [] := by simpa using h
        subst this
        exact Y.none
  · simp at h
  refine X.ifs (b := L2.getLast? != L2.getLast?) ?_ (fun h => ?_) (fun _ => X.nil ?_)
  · refine S.cmpB rfl (a := optI L2.getLast?) (b := optI L2.getLast?) ?_ ?_ CmpOK.neO
    · rw [← hpv]
      exact S.meth rfl (S.loc (kOf hs rfl) rfl rfl) rfl ⟨rfl, rfl⟩ rfl rfl rfl ⟨_, rfl⟩ (S.consA rfl (S.cell (kOf hs rfl) rfl rfl) (S.consA rfl (S.cell (kOf hs rfl) rfl rfl) Ys.nil)) (ArgsOk.cons rfl) (prev_ok (n := n + 2) hp.1 hsz hruC)
    · refine Y.ifexp (b := L2 != []) (S.cmpB rfl (S.loc (kOf hs rfl) rfl rfl) (Y.list Ys.nil (by rw [sizeLine_eq]; exact Nat.le_of_ble_eq_true rfl)) CmpOK.neLI0) (fun h => ?_) (fun h => ?_)
      · rw [sizeLine_eq] at hlf2
        have hne : L2 ≠ [] := by simpa using h
        have hpos := List.length_pos_iff.mpr hne
        refine Y.itemLneg (l := L2.map .int) (k := -1) (S.loc (kOf hs rfl) rfl rfl) (Y.neg Y.int) (by decide) (by rw [List.length_map]; lia) (by decide) ?_ (fun _ _ => rfl)
        rw [List.length_map, List.getElem?_map, List.getLast?_eq_getElem?, show ((-1 : Int) + L2.length).toNat = L2.length - 1 by exact Ar.d1, List.getElem?_eq_getElem (by apply Ar.x7 <;> assumption)]
        rfl
      · have : L2 = [] := by simpa using h
        subst this
        exact Y.none
  · simp at h
  refine X.ifs (b := (B.any (· == p)) != (B.any (· == p))) ?_ (fun h => ?_) (fun _ => X.nil ?_)
  · refine S.cmpB rfl (a := .bool (B.any (· == p))) (b := .bool (B.any (· == p))) ?_ ?_ CmpOK.neB
    · have e := isB_pure cs.length (R cs) p (R cs p.toNat) (fun _ => rfl)
      rw [hB] at e
      rw [← e]
      refine S.meth rfl (S.loc (kOf hs rfl) rfl rfl) rfl ⟨rfl, rfl⟩ rfl rfl rfl ⟨_, rfl⟩ (S.consA rfl (S.cell (kOf hs rfl) rfl rfl) (S.consA rfl (S.cell (kOf hs rfl) rfl rfl) Ys.nil)) (ArgsOk.cons rfl) (isb_ok (n := n + 3) hsl (fun hp' => ?_))
      have := hruC p.toNat (by apply Ar.e2 <;> assumption)
      rw [show ((p.toNat : Nat) : Int) = p by apply Ar.e1 <;> assumption] at this
      exact this.le (by lia)
    · exact S.cmpV rfl (S.cell (kOf hs rfl) rfl rfl) (S.cell (kOf hs rfl) rfl rfl) CmpOK.inLI
  · simp at h
  refine X.ret (d := .bool (pairsI B == pairsI B)) ?_ (.inl (by simp))
  refine S.cmpV rfl ?_ ?_ CmpOK.eqLP
  · rw [← hB]
    exact S.meth rfl (S.loc (kOf hs rfl) rfl rfl) rfl ⟨rfl, rfl⟩ rfl rfl rfl ⟨_, rfl⟩ (S.consA rfl (S.cell (kOf hs rfl) rfl rfl) Ys.nil) (ArgsOk.cons rfl) (segments_ok (n := n + 1) hsz fun i hi => (hru cs hc i (by apply Ar.e4 <;> assumption)).le (by lia))
  · have e2 : (pairsI B).map prD = ((List.range ((B.length : Int) - 1).toNat).filter fun _ => true).map fun i : Nat => prD (B.getD i default, B.getD (i + 1) default) := by
      rw [filter_tt, show ((B.length : Int) - 1).toNat = B.length - 1 from Ar.tnS _]
      unfold pairsI
      rw [List.map_map]; rfl
    rw [e2]
    rw [sizeLine_eq] at hbsl
    refine Y.comp (p := fun _ => true) (f := fun i : Nat => prD (B.getD i default, B.getD (i + 1) default)) hs (Src.ofV (SrcV.range1 (b := (B.length : Int) - 1) (kOf hs rfl) rfl rfl ?_ ?_)) rfl (fun _ => rfl) (by rw [sizeLine_eq]; apply Ar.s4 <;> assumption) (fun i hi env1 hs1 => YT.nil) (fun i hi hq env1 hs1 => ?_)
    · exact Y.bin (S.lenM (kOf hs rfl) rfl rfl (S.cell (kOf hs rfl) rfl rfl) (by rw [sizeLine_eq]; assumption)) Y.int BinOK.subI
    · apply Ar.z6 <;> assumption
    · have e3 : B.getD i default = B.getD (i : Int).toNat default := by rw [Int.toNat_natCast]
      have e4 : B.getD (i + 1) default = B.getD ((i : Int) + 1).toNat default := by rw [show ((i : Int) + 1).toNat = i + 1 from Ar.tnA _]
      rw [e3, e4]
      exact Y.tuple (S.consA rfl (S.item (S.cell (kOf hs1 rfl) rfl rfl) (S.loc (kOf hs1 rfl) rfl rfl) (ItemIs.map ⟨by exact Int.natCast_nonneg _, by apply Ar.w3 <;> assumption, by rw [sizeLine_eq]; assumption⟩) (fun _ _ => rfl)) (S.consA rfl (S.item (S.cell (kOf hs1 rfl) rfl rfl) (Y.bin (S.loc (kOf hs1 rfl) rfl rfl) Y.int BinOK.addI) (ItemIs.map ⟨by apply Ar.nnA <;> assumption, by apply Ar.w2 <;> assumption, by rw [sizeLine_eq]; assumption⟩) (fun _ _ => rfl)) Ys.nil)) (by rw [sizeLine_eq]; exact Nat.le_of_ble_eq_true rfl)
end
end Uni
namespace Uni
section
variable {w : World} {n : Nat} {env : Env} {r : Rho} {os : Os} {P : Fl → Rho → Os → Prop} {rest : List Stmt}

theorem places_append (a b : Os) : places (a ++ b) = places a ++ places b := places_app a b
theorem fresh_K {h : Heap} {b : Addr} (W : Wd w h) (e : h.get? b = none) : (KK w).lookup b = none := by
  cases q : (KK w).lookup b with
  | none => rfl
  | some o => have := W.k _ _ q; rw [e] at this; cases this
theorem SameM.ow {Y : List Addr} {o1 o2 : Os} {s s' : Shared} {p : Addr × Ow} (x : SameM [] o1 o2 s s') (h : OwAt w s.heap (places o1 ++ Y) p.1 p.2) (off : ∀ b ∈ placesOf p, b ∉ places o1) : OwAt w s'.heap (places o2 ++ Y) p.1 p.2 := by
  have g := OwAt.grow (Zo := (places o2).filter fun b => (s.heap.get? b).isNone) h (fun b o e => e) (fun b hb => by simpa using (List.mem_filter.mp hb).2)
  refine g.mono (fun b o hb e => x.k b o (by simp) (fun q => hb ?_) e) (fun b hb o e => x.k b o (by simp) (off b hb) e) fun b hb => ?_
  · simp only [List.mem_append]; exact .inr (.inl q)
  · simp only [List.mem_append] at hb ⊢
    rcases hb with q | q
    · rcases x.fr b q with q' | q'
      · exact .inr (.inl q')
      · exact .inl (List.mem_filter.mpr ⟨q, by rw [q']; rfl⟩)
    · exact .inr (.inr q)
theorem OwAt.less {h : Heap} {Z Z' : List Addr} {p : Addr × Ow} (x : OwAt w h Z p.1 p.2) (z : ∀ b, b ∈ Z' → b ∈ Z) : OwAt w h Z' p.1 p.2 := x.mono (.of_keeps fun _ _ e => e) (fun _ _ _ e => e) z
theorem Rd.less {h : Heap} {Z Z' : List Addr} {d : D} {v : Value} (x : Rd w h Z d v) (z : ∀ b, b ∈ Z' → b ∈ Z) : Rd w h Z' d v := x.mono (.of_keeps fun _ _ e => e) z
theorem Rds.less {h : Heap} {Z Z' : List Addr} {d : List D} {v : List Value} (x : Rds w h Z d v) (z : ∀ b, b ∈ Z' → b ∈ Z) : Rds w h Z' d v := Rds.mono (.of_keeps fun _ _ e => e) z _ _ x

theorem FIm.after {Zo Z : List Addr} {hb : Heap} {os' : Os} {s s' : Shared} (F : FIm w env Zo Z hb r os s.heap) (sm : SameM [] os os' s s') (ow : ∀ p ∈ os', OwAt w s'.heap (places os' ++ (Zo ++ Z)) p.1 p.2) (nd : (places os').Nodup)
    (dj : ∀ b ∈ places os', b ∉ Zo ++ Z ∧ hb.get? b = none) (kb : ∀ b o, hb.get? b = some o → s'.heap.get? b = some o) : FIm w env Zo Z hb r os' s'.heap where
  fi := by
    have gr : ∀ d v, Rd w s.heap (Zo ++ (places os ++ Z)) d v → Rd w s'.heap (Zo ++ (places os' ++ Z)) d v := fun d v x => sm.rd x
    have kz : ∀ b o, b ∈ Zo → s.heap.get? b = some o → s'.heap.get? b = some o := fun b o hz e => sm.k b o (by simp) (fun q => (F.dj b q).1 hz) e
    refine ⟨⟨F.fi.wd.keeps kb, fun z hz => ?_, ?_, fun x d e q => ?_, F.fi.e.kd, F.fi.e.gl, F.fi.e.bi⟩, kb, F.fi.wd, F.fi.ln, F.fi.fr, fun x hx => ?_, F.fi.inj, F.fi.nofree⟩
    · have old : z ∈ Zo ++ (places os ++ Z) → (KK w).lookup z = none ∧ ∃ o, s'.heap.get? z = some o := fun q => by
        obtain ⟨a, o, e⟩ := F.fi.e.z z q
        exact ⟨a, sm.lv z o e⟩
      simp only [List.mem_append] at hz
      rcases hz with q | q | q
      · exact old (by simp [q])
      · rcases sm.fr z q with q' | q'
        · exact old (by simp [q'])
        · refine ⟨fresh_K F.fi.e.wd q', ?_⟩
          have : ∀ (l : Os), z ∈ places l → ∃ p ∈ l, z ∈ placesOf p := fun l => by
            induction l with
            | nil => intro h; cases h
            | cons p l ih =>
              intro h
              rcases List.mem_append.mp h with h | h
              · exact ⟨p, .head _, h⟩
              · obtain ⟨p', h1, h2⟩ := ih h; exact ⟨p', .tail _ h1, h2⟩
          obtain ⟨p, hp, hz⟩ := this os' q
          exact (ow p hp).live z hz
      · exact old (by simp [q])
    · obtain ⟨m, hn, hm⟩ := F.fi.e.ns
      exact ⟨m, hn.at' fun o e => kz _ o F.fi.ln e, fun x d e q => let ⟨v, e1, e2⟩ := hm x d e q; ⟨v, e1, gr _ _ e2⟩⟩
    · obtain ⟨c, v, e1, ⟨co, e2, e2'⟩, e3⟩ := F.fi.e.cl x d e q
      have hx : env.kindOf x = some .cell := q.resolve_right (F.fi.nofree x)
      obtain ⟨c', v', f1, f2, f3, _⟩ := F.fi.cells x hx
      rw [e1] at f1; cases f1
      exact ⟨c, v, e1, ⟨co, kz _ _ f3 e2, e2'⟩, gr _ _ e3⟩
    · obtain ⟨c, v, e1, ⟨co, e2, e2'⟩, e3⟩ := F.fi.cells x hx
      exact ⟨c, v, e1, ⟨co, kz _ _ e3.1 e2, e2'⟩, e3⟩
  ow := fun p hp => (ow p hp).less fun b hb => by
    simp only [List.mem_append] at hb ⊢
    rcases hb with q | q | q
    · exact .inr (.inl q)
    · exact .inl q
    · exact .inr (.inr q)
  nd := nd
  dj := fun b hb => ⟨fun q => (dj b hb).1 (List.mem_append_left _ q), fun q => (dj b hb).1 (List.mem_append_right _ q), (dj b hb).2⟩

theorem FIm.pre {Zo Z : List Addr} {hb : Heap} {s : Shared} (F : FIm w env Zo Z hb r os s.heap) : PreM w s (Zo ++ Z) hb os where
  W := F.fi.e.wd
  hz := fun z hz => F.fi.e.z z (by simp only [List.mem_append] at hz ⊢; rcases hz with q | q | q <;> simp [q])
  wb := F.fi.wd
  kb := F.fi.kp
  ow := fun p hp => (F.ow p hp).less fun b hb => by simp only [List.mem_append] at hb ⊢; rcases hb with q | q | q <;> simp [q]
  nd := F.nd
  dj := fun b hb => ⟨fun q => (List.mem_append.mp q).elim (F.dj b hb).1 (F.dj b hb).2.1, (F.dj b hb).2.2⟩

theorem CallM.frame {f : Addr} {ds : List D} {pre os1 post : Os} {Pd : D → Os → Prop} (hc : CallM w n f ds os1 Pd) : CallM w n f ds (pre ++ (os1 ++ post)) (fun d os' => ∃ os2, os' = pre ++ (os2 ++ post) ∧ Pd d os2) := fun A s Z hb vs ao p rd => by
  have hpl : ∀ l : Os, ∀ b, b ∈ places (pre ++ (l ++ post)) ↔ b ∈ places pre ∨ b ∈ places l ∨ b ∈ places post := fun l b => by
    rw [places_append, places_append, List.mem_append, List.mem_append]
  have nd := p.nd
  rw [places_append, places_append, List.nodup_append] at nd
  obtain ⟨nd1, nd2, nd3⟩ := nd
  rw [List.nodup_append] at nd2
  obtain ⟨nd4, nd5, nd6⟩ := nd2
  have p1 : PreM w s ((places pre ++ places post) ++ Z) hb os1 := by
    refine ⟨p.W, fun z hz => p.hz z ?_, p.wb, p.kb, fun q hq => (p.ow q (by simp [hq])).less fun b hb => ?_, nd4, fun b hb => ⟨fun q => ?_, ?_⟩⟩
    · simp only [List.mem_append, hpl] at hz ⊢; grind
    · simp only [List.mem_append, hpl] at hb ⊢; grind
    · simp only [List.mem_append] at q
      rcases q with (q | q) | q
      · exact nd3 b q b (List.mem_append_left _ hb) rfl
      · exact nd6 b hb b q rfl
      · exact (p.dj b ((hpl _ _).mpr (.inr (.inl hb)))).1 q
    · exact (p.dj b ((hpl _ _).mpr (.inr (.inl hb)))).2
  refine codeAny_mono (hc A s _ hb vs ao p1 (rd.less fun b hb => by simp only [List.mem_append, hpl] at hb ⊢; grind)) fun res s' hZ => ?_
  obtain ⟨v, d, os2, e1, hd, rv, ow, nd', dj, sm, kb⟩ := hZ
  refine ⟨v, d, _, e1, ⟨os2, rfl, hd⟩, rv.less fun b hb => by simp only [List.mem_append, hpl] at hb ⊢; grind, fun q hq => ?_, ?_, fun b hb => ?_, ⟨sm.eq, fun b o h1 h2 e => sm.k b o h1 (fun q => h2 ((hpl _ _).mpr (.inr (.inl q)))) e, fun b hb => ?_, sm.lv⟩, kb⟩
  · have other : q ∈ pre ∨ q ∈ post → OwAt w s'.heap (places (pre ++ (os2 ++ post)) ++ Z) q.1 q.2 := fun hq' => by
      have h1 : OwAt w s.heap (places os1 ++ ((places pre ++ places post) ++ Z)) q.1 q.2 := (p.ow q (by simp; grind)).less fun b hb => by simp only [List.mem_append, hpl] at hb ⊢; grind
      refine (sm.ow h1 fun b hb hb' => ?_).less fun b hb => by simp only [List.mem_append, hpl] at hb ⊢; grind
      rcases hq' with hq' | hq'
      · exact nd3 b (placesOf_sub hq' b hb) b (List.mem_append_left _ hb') rfl
      · exact nd6 b hb' b (placesOf_sub hq' b hb) rfl
    simp only [List.mem_append] at hq
    rcases hq with hq | hq | hq
    · exact other (.inl hq)
    · exact (ow q hq).less fun b hb => by simp only [List.mem_append, hpl] at hb ⊢; grind
    · exact other (.inr hq)
  · rw [places_append, places_append, List.nodup_append]
    refine ⟨nd1, ?_, fun a ha b hb e => ?_⟩
    · rw [List.nodup_append]
      exact ⟨nd', nd5, fun a ha b hb e => (dj a ha).1 (by simp [e, hb])⟩
    · subst e
      rcases List.mem_append.mp hb with hb | hb
      · exact (dj a hb).1 (by simp [ha])
      · exact nd3 a ha a (List.mem_append_right _ hb) rfl
  · rcases (hpl _ _).mp hb with q | q | q
    · exact p.dj b ((hpl _ _).mpr (.inl q))
    · exact ⟨fun h => (dj b q).1 (by simp [h]), (dj b q).2⟩
    · exact p.dj b ((hpl _ _).mpr (.inr (.inr q)))
  · rcases (hpl _ _).mp hb with q | q | q
    · exact .inl ((hpl _ _).mpr (.inl q))
    · exact (sm.fr b q).imp (fun q => (hpl _ _).mpr (.inr (.inl q))) id
    · exact .inl ((hpl _ _).mpr (.inr (.inr q)))
theorem CallM.mono {f : Addr} {ds : List D} {Pd Pd' : D → Os → Prop} (hc : CallM w n f ds os Pd) (h : ∀ d os', Pd d os' → Pd' d os') : CallM w n f ds os Pd' := fun A s Z hb vs ao p rd =>
  codeAny_mono (hc A s Z hb vs ao p rd) fun res s' ⟨v, d, os2, e1, hd, q⟩ => ⟨v, d, os2, e1, h _ _ hd, q⟩
theorem CallM.le {m : Nat} {f : Addr} {ds : List D} {Pd : D → Os → Prop} (hc : CallM w n f ds os Pd) (hm : n ≤ m) : CallM w m f ds os Pd := fun A s Z hb vs ao => hc A s Z hb vs (ao.le hm)

theorem CallM.run {f : Addr} {ds : List D} {Pd : D → Os → Prop} (hc : CallM w n f ds os Pd) {A : Around} {s : Shared} {Zo Z : List Addr} {hb : Heap} {vs : List Value} (ao : AOk n A) (F : FIm w env Zo Z hb r os s.heap) (rd : Rds w s.heap (Zo ++ (places os ++ Z)) ds vs) :
    wpAny (MM w) A (call (.ref f) vs []) (fun v s' => ∃ d os', Pd d os' ∧ Rd w s'.heap (Zo ++ (places os' ++ Z)) d v ∧ FIm w env Zo Z hb r os' s'.heap ∧ SameM [] os os' s s') NoE s :=
  wpAny_call (codeAny_mono (hc A s (Zo ++ Z) hb vs ao F.pre (rd.less fun b hb => by simp only [List.mem_append] at hb ⊢; grind)) fun res s' hZ => by
    obtain ⟨v, d, os2, e1, hd, rv, ow, nd, dj, sm, kb⟩ := hZ
    subst e1
    exact ⟨d, os2, hd, rv.less fun b hb => by simp only [List.mem_append] at hb ⊢; grind, F.after sm ow nd dj kb, sm⟩)
end
end Uni
namespace Uni
-- Frz os d e: e is d, with own objects looked through
mutual
inductive Frz (os : Os) : D → D → Prop
  | refl (d) : Frz os d d
  | any (d) : Frz os d .any
  | lst {a l l'} : (a, Ow.lst l) ∈ os → Frzs os l l' → Frz os (.own a) (.lst l')
  | dct {a es es'} : (a, Ow.dct es) ∈ os → Frze os es es' → Frz os (.own a) (.dct es')
  | inst {a c dx fs fs'} : (a, Ow.inst c dx fs) ∈ os → Frze os fs fs' → Frz os (.own a) (.inst c fs')
inductive Frzs (os : Os) : List D → List D → Prop
  | nil : Frzs os [] []
  | cons {d d' l l'} : Frz os d d' → Frzs os l l' → Frzs os (d :: l) (d' :: l')
inductive Frze (os : Os) : List (Str × D) → List (Str × D) → Prop
  | nil : Frze os [] []
  | cons {x d d' l l'} : Frz os d d' → Frze os l l' → Frze os ((x, d) :: l) ((x, d') :: l')
end
theorem Frzs.refl {os : Os} : ∀ l : List D, Frzs os l l
  | [] => .nil
  | d :: l => .cons (.refl d) (Frzs.refl l)
theorem Frze.refl {os : Os} : ∀ l : List (Str × D), Frze os l l
  | [] => .nil
  | (x, d) :: l => .cons (.refl d) (Frze.refl l)
section
variable {w : World} {h : Heap} {Z Z' : List Addr} {fz : Os}
mutual
theorem Frz.rd (ow : ∀ p ∈ fz, OwAt w h Z p.1 p.2) (z : ∀ b, b ∈ Z' → b ∈ Z) (off : ∀ b ∈ places fz, b ∉ Z') {d d' : D} (x : Frz fz d d') : ∀ v, Rd w h Z d v → Rd w h Z' d' v := fun v r => by
  cases x with
  | refl => exact r.less z
  | any => exact handed r
  | lst hm hs =>
    cases r
    obtain ⟨vs, n, e, e2⟩ := ow _ hm
    exact ⟨_, vs, n, rfl, off _ (placesOf_sub hm _ (by simp [placesOf])), e, Frzs.rd ow z off hs _ e2⟩
  | dct hm hs =>
    cases r
    obtain ⟨vs, n, e, e2, e3⟩ := ow _ hm
    exact ⟨_, vs, n, rfl, off _ (placesOf_sub hm _ (by simp [placesOf])), e, Frze.rd ow z off hs _ e2, e3⟩
  | inst hm hs =>
    cases r
    obtain ⟨vs, n, e, e2, e3⟩ := ow _ hm
    exact ⟨_, _, vs, n, rfl, off _ (placesOf_sub hm _ (by simp [placesOf])), off _ (placesOf_sub hm _ (by simp [placesOf])), e, e2, Frze.rd ow z off hs _ e3⟩
theorem Frzs.rd (ow : ∀ p ∈ fz, OwAt w h Z p.1 p.2) (z : ∀ b, b ∈ Z' → b ∈ Z) (off : ∀ b ∈ places fz, b ∉ Z') {d d' : List D} (x : Frzs fz d d') : ∀ v, Rds w h Z d v → Rds w h Z' d' v := fun v r => by
  cases x with
  | nil => exact r
  | cons h1 h2 =>
    obtain ⟨v, q, rfl, h3, h4⟩ := r
    exact ⟨v, q, rfl, Frz.rd ow z off h1 _ h3, Frzs.rd ow z off h2 _ h4⟩
theorem Frze.rd (ow : ∀ p ∈ fz, OwAt w h Z p.1 p.2) (z : ∀ b, b ∈ Z' → b ∈ Z) (off : ∀ b ∈ places fz, b ∉ Z') {d d' : List (Str × D)} (x : Frze fz d d') : ∀ v, Rde w h Z d v → Rde w h Z' d' v := fun v r => by
  cases x with
  | nil => exact r
  | cons h1 h2 =>
    obtain ⟨e, q, t, rfl, h3, h3', h4, h5⟩ := r
    exact ⟨e, q, t, rfl, h3, h3', Frz.rd ow z off h1 _ h4, Frze.rd ow z off h2 _ h5⟩
end
noncomputable def Scal : D → Bool
  | .none | .bool _ | .int _ | .str _ | .any | .own _ | .fn _ => true
  | _ => false
theorem Scal.rd {h' : Heap} {d : D} {v : Value} (e : Scal d = true) (r : Rd w h Z d v) : Rd w h' Z' d v := by
  cases d <;> first | exact r | cases e
theorem Scal.rds {h' : Heap} : ∀ {d : List D} {v : List Value}, d.all Scal = true → Rds w h Z d v → Rds w h' Z' d v
  | [], _, _, r => r
  | d :: l, _, e, r => by
    obtain ⟨v, q, rfl, h3, h4⟩ := r
    rw [List.all_cons, Bool.and_eq_true] at e
    exact ⟨v, q, rfl, Scal.rd e.1 h3, Scal.rds e.2 h4⟩
noncomputable def NoLst : Os → Bool
  | [] => true
  | (_, .lst _) :: _ => false
  | (_, .raw _) :: _ => false
  | _ :: os => NoLst os
theorem noLst_off : ∀ {fz : Os}, NoLst fz = true → (∀ p ∈ fz, OwAt w h Z p.1 p.2) → ∀ b ∈ places fz, ∀ vs n, h.get? b ≠ some (lstO vs n)
  | [], _, _, b, hb, _, _, _ => by cases hb
  | (a, .lst _) :: _, e, _, _, _, _, _, _ => by cases e
  | (a, .raw _) :: _, e, _, _, _, _, _, _ => by cases e
  | (a, .dct es) :: os, e, ow, b, hb, vs, n, q => by
    rcases List.mem_append.mp hb with hb | hb
    · rw [List.mem_singleton.mp hb] at q
      obtain ⟨us, m, e1, _⟩ := ow _ (.head _)
      rw [e1] at q
      exact absurd (Value.type.inj (congrArg Obj.cls (Option.some.inj q))) (by decide)
    · exact noLst_off (fz := os) e (fun p hp => ow p (.tail _ hp)) b hb vs n q
  | (a, .inst c dx fs) :: os, e, ow, b, hb, vs, n, q => by
    rcases List.mem_append.mp hb with hb | hb
    · obtain ⟨us, m, e1, e2, _⟩ := ow _ (.head _)
      rcases List.mem_cons.mp hb with rfl | hb
      · rw [e1] at q
        have := congrArg Obj.cls (Option.some.inj q)
        cases this
      · rw [List.mem_singleton.mp hb, e2] at q
        exact absurd (Value.type.inj (congrArg Obj.cls (Option.some.inj q))) (by decide)
    · exact noLst_off (fz := os) e (fun p hp => ow p (.tail _ hp)) b hb vs n q
end
section
variable {w : World} {n : Nat} {env : Env} {r : Rho} {os : Os} {P : Fl → Rho → Os → Prop} {rest : List Stmt}
noncomputable abbrev FrzR (fz : Os) (r r' : Rho) : Prop := ∀ x d', r' x = some d' → ∃ d, r x = some d ∧ Frz fz d d'
noncomputable def AllF (fz : Os) : List (Str × D) → Rho → Prop
  | [], _ => True
  | p :: ps, r => (∃ d, r p.1 = some d ∧ Frz fz d p.2) ∧ AllF fz ps r
theorem frzR_of {fz : Os} : ∀ {l : List (Str × D)} {r : Rho}, AllF fz l r → FrzR fz r (rl l) := fun {l r} h x d e => by
  have hm := mem_of_lookup (l := l) e
  clear e
  induction l with
  | nil => cases hm
  | cons p ps ih =>
    cases hm with
    | head => exact h.1
    | tail _ hm => exact ih h.2 hm
theorem FIm.freeze {Zo Z : List Addr} {hb h : Heap} {fz more : Os} {r' : Rho} (F : FIm w env Zo Z hb r (fz ++ more) h) (hr : FrzR fz r r') : FIm w env Zo Z hb r' more h := by
  have hpl : ∀ b, b ∈ places (fz ++ more) ↔ b ∈ places fz ∨ b ∈ places more := fun b => by rw [places_append, List.mem_append]
  have nd := F.nd
  rw [places_append, List.nodup_append] at nd
  have sub : ∀ b, b ∈ Zo ++ (places more ++ Z) → b ∈ Zo ++ (places (fz ++ more) ++ Z) := fun b hb => by simp only [List.mem_append, hpl] at hb ⊢; grind
  have off : ∀ b ∈ places fz, b ∉ Zo ++ (places more ++ Z) := fun b hb q => by
    simp only [List.mem_append] at q
    rcases q with q | q | q
    · exact (F.dj b ((hpl b).mpr (.inl hb))).1 q
    · exact nd.2.2 b hb b q rfl
    · exact (F.dj b ((hpl b).mpr (.inl hb))).2.1 q
  have owf : ∀ p ∈ fz, OwAt w h (Zo ++ (places (fz ++ more) ++ Z)) p.1 p.2 := fun p hp => F.ow p (List.mem_append_left _ hp)
  refine ⟨⟨⟨F.fi.e.wd, fun z hz => F.fi.e.z z (sub z hz), ?_, fun x d' e q => ?_, F.fi.e.kd, F.fi.e.gl, F.fi.e.bi⟩, F.fi.kp, F.fi.wd, F.fi.ln, F.fi.fr, F.fi.cells, F.fi.inj, F.fi.nofree⟩, fun p hp => (F.ow p (List.mem_append_right _ hp)).less sub, nd.2.1, fun b hb => F.dj b ((hpl b).mpr (.inr hb))⟩
  · obtain ⟨m, hn, hm⟩ := F.fi.e.ns
    refine ⟨m, hn, fun x d' e q => ?_⟩
    obtain ⟨d, e1, e2⟩ := hr x d' e
    obtain ⟨v, e3, e4⟩ := hm x d e1 q
    exact ⟨v, e3, e2.rd owf sub off _ e4⟩
  · obtain ⟨d, e1, e2⟩ := hr x d' e
    obtain ⟨c, v, e3, e4, e5⟩ := F.fi.e.cl x d e1 q
    exact ⟨c, v, e3, e4, e2.rd owf sub off _ e5⟩
theorem YM.borrow {fz more : Os} {r' : Rho} {t : Sem Value} {d : D} (hos : os = fz ++ more) (hr : FrzR fz r r') (hs : Scal d = true) (h : Y w n env r' t d) : YM w n env r os t d := fun A s Zo Z hb ao F => by
  subst hos
  exact wpAny_mono (h A s _ ao (F.freeze hr).fi.e) (fun v s' ⟨k, rd⟩ => ⟨k, Scal.rd hs rd⟩) fun _ _ e => e
theorem YBM.borrow {fz more : Os} {r' : Rho} {t : Sem Bool} {b : Bool} (hos : os = fz ++ more) (hr : FrzR fz r r') (h : YB w n env r' t b) : YBM w n env r os t b := fun A s Zo Z hb ao F => by
  subst hos
  exact h A s _ ao (F.freeze hr).fi.e
theorem YM.borrowL {fz more : Os} {r' : Rho} {t : Sem Value} {l : List D} (hos : os = fz ++ more) (hr : FrzR fz r r') (hl : NoLst fz = true) (hs : l.all Scal = true) (h : Y w n env r' t (.lst l)) : YM w n env r os t (.lst l) := fun A s Zo Z hb ao F => by
  subst hos
  refine wpAny_mono (h A s _ ao (F.freeze hr).fi.e) (fun v s' ⟨k, a, vs, m, e1, e2, e3, e4⟩ => ⟨k, a, vs, m, e1, fun q => ?_, e3, Scal.rds hs e4⟩) fun _ _ e => e
  have F' := F.keeps k.k
  simp only [places_append, List.mem_append] at q e2
  have : a ∈ places fz := by grind
  exact noLst_off hl (fun p hp => F'.ow p (List.mem_append_left _ hp)) a this vs m e3
theorem XM.freeze {fz more : Os} {r' : Rho} {t : Sem Flow} (hos : os = fz ++ more) (hr : FrzR fz r r') (h : XM w n env r' more t P) : XM w n env r os t P := fun A s Zo Z hb ao F => by
  subst hos
  refine wpAny_mono (h A s Zo Z hb ao (F.freeze hr)) (fun fl s' ⟨f, r1, os1, p, q, F1, sm⟩ => ⟨f, r1, os1, p, q, F1, sm.eq, fun b o h1 h2 e => sm.k b o h1 (fun q => h2 (by rw [places_append]; exact List.mem_append_right _ q)) e, fun b hb => ?_, sm.lv⟩) fun _ _ e => e
  rcases sm.fr b hb with q | q
  · exact .inl (by rw [places_append]; exact List.mem_append_right _ q)
  · exact .inr q
theorem XM.ofX {t : Sem Flow} {Q : Fl → Rho → Prop} (h : X w n env r t Q) (hq : ∀ f r', Q f r' → P f r' os) : XM w n env r os t P := fun A s Zo Z hb ao F =>
  wpAny_mono (h A s Zo _ hb ao F.fi) (fun fl s' ⟨f, r', p, q, F', e⟩ => let ⟨a, b⟩ := F.step F' e; ⟨f, r', os, hq _ _ p, q, a, b⟩) fun _ _ e => e
theorem FIm.of {Zo Z : List Addr} {hb h : Heap} (F : FIs w env Zo Z hb r h) : FIm w env Zo Z hb r [] h := ⟨F, fun p hp => (by cases hp), List.nodup_nil, fun b hb => (by cases hb)⟩

theorem EM.mono {t : Sem Value} {P0 P1 : D → Os → Prop} (h : EM w n env r os t P0) (hp : ∀ d os', P0 d os' → P1 d os') : EM w n env r os t P1 := fun A s Zo Z hb ao F =>
  wpAny_mono (h A s Zo Z hb ao F) (fun v s' ⟨d, os', p, q⟩ => ⟨d, os', hp _ _ p, q⟩) fun _ _ e => e
theorem EM.ofY {t : Sem Value} {d : D} {P0 : D → Os → Prop} (h : Y w n env r t d) (hp : P0 d os) : EM w n env r os t P0 := EM.of (YM.of h) hp
noncomputable def EMs (w : World) (n : Nat) (env : Env) (r : Rho) (os : Os) (t : Sem (List Value)) (P : List D → Os → Prop) : Prop :=
  ∀ A s Zo Z hb, AOk n A → FIm w env Zo Z hb r os s.heap → wpAny (MM w) A t (fun vs s' => ∃ ds os', P ds os' ∧ Rds w s'.heap (Zo ++ (places os' ++ Z)) ds vs ∧ FIm w env Zo Z hb r os' s'.heap ∧ SameM [] os os' s s') NoE s
theorem EMs.nil {pos} {P0 : List D → Os → Prop} (h : P0 [] os) : EMs w n env r os (spliced (backTo pos (starEach [] env))) P0 := fun _ s _ _ _ _ F => wpAny_items_nil ⟨[], os, h, rfl, F, .refl s⟩
theorem EMs.cons {pos e rest} {P0 : D → Os → Prop} {P1 : List D → Os → Prop} (he : starEach (e :: rest) env = (false, eval e env) :: starEach rest env) (hd : EM w n env r os (eval e env) P0)
    (hr : ∀ d os1, P0 d os1 → EMs w n env r os1 (spliced (backTo pos (starEach rest env))) (fun ds os2 => P1 (d :: ds) os2)) : EMs w n env r os (spliced (backTo pos (starEach (e :: rest) env))) P1 := fun A s Zo Z hb ao F =>
  wpAny_items_cons (wpAny_mono (hd A s Zo Z hb ao F) (fun v s₁ ⟨d, os1, p1, r1, F1, m1⟩ => wpAny_mono (hr d os1 p1 A s₁ Zo Z hb ao F1) (fun vs s₂ ⟨ds, os2, p2, r2, F2, m2⟩ => ⟨d :: ds, os2, p2, ⟨v, vs, rfl, m2.rd r1, r2⟩, F2, m1.trans m2⟩) fun _ _ e => e) fun _ _ e => e) he
theorem EMs.mono {t : Sem (List Value)} {P0 P1 : List D → Os → Prop} (h : EMs w n env r os t P0) (hp : ∀ d os', P0 d os' → P1 d os') : EMs w n env r os t P1 := fun A s Zo Z hb ao F =>
  wpAny_mono (h A s Zo Z hb ao F) (fun v s' ⟨d, os', p, q⟩ => ⟨d, os', hp _ _ p, q⟩) fun _ _ e => e
theorem EMs.ofYs {t : Sem (List Value)} {ds : List D} {P0 : List D → Os → Prop} (h : Ys w n env r t ds) (hp : P0 ds os) : EMs w n env r os t P0 := fun A s Zo Z hb ao F =>
  wpAny_mono (h A s _ ao F.fi.e) (fun v s' ⟨k, rd⟩ => ⟨ds, os, hp, rd, F.keeps k.k, k.sameM⟩) fun _ _ e => e

theorem EM.list {elts pos} {P0 : D → Os → Prop} {P1 : List D → Os → Prop} (hd : EMs w n env r os (spliced (backTo pos (starEach elts env))) P1) (h : ∀ ds os', P1 ds os' → ds.length ≤ sizeLine ∧ P0 (.lst ds) os') : EM w n env r os (eval (.List elts pos) env) P0 := fun A s Zo Z hb ao F =>
  PyProof.Rows.List_ (wpAny_mono (hd A s Zo Z hb ao F) (fun vs s₁ hZ => by
    obtain ⟨ds, os1, p1, r1, F1, m1⟩ := hZ
    obtain ⟨hz, p0⟩ := h ds os1 p1
    have zf := F1.fi.e.z.fresh
    refine wpAny_newObj_type (h := ⟨.lst ds, os1, p0, ⟨_, vs.toArray, 0, rfl, zf, Heap.get?_push_size _ rfl, r1.mono (.of_keeps fun _ _ e => Heap.get?_push_of_some _ e) fun _ q => q⟩, F1.keeps fun _ _ e => Heap.get?_push_of_some _ e, m1.trans (Kp.push _ _).sameM⟩) (by show vs.toArray.size ≤ sizeLine; rw [List.size_toArray, r1.len]; exact hz)) fun _ _ e => e)
theorem EM.tuple {elts k pos} {P0 : D → Os → Prop} {P1 : List D → Os → Prop} (hd : EMs w n env r os (spliced (backTo pos (starEach elts env))) P1) (h : ∀ ds os', P1 ds os' → ds.length ≤ sizeLine ∧ P0 (.tup ds) os') : EM w n env r os (eval (.Tuple elts k pos) env) P0 := fun A s Zo Z hb ao F =>
  PyProof.Rows.Tuple_ (wpAny_mono (hd A s Zo Z hb ao F) (fun vs s₁ hZ => by
    obtain ⟨ds, os1, p1, r1, F1, m1⟩ := hZ
    obtain ⟨hz, p0⟩ := h ds os1 p1
    have zf := F1.fi.e.z.fresh
    refine wpAny_newObj_type (h := ⟨.tup ds, os1, p0, ⟨_, vs.toArray, 0, rfl, zf, Heap.get?_push_size _ rfl, r1.mono (.of_keeps fun _ _ e => Heap.get?_push_of_some _ e) fun _ q => q⟩, F1.keeps fun _ _ e => Heap.get?_push_of_some _ e, m1.trans (Kp.push _ _).sameM⟩) (by show vs.toArray.size ≤ sizeLine; rw [List.size_toArray, r1.len]; exact hz)) fun _ _ e => e)
theorem size_none {h h' : Heap} (k : ∀ b o, h.get? b = some o → h'.get? b = some o) : h.get? h'.objs.size = none := by
  cases q : h.get? h'.objs.size with
  | none => rfl
  | some o => exact absurd (Heap.lt_size (k _ _ q)) (Nat.lt_irrefl _)
theorem own_end {Zo Z : List Addr} {hb : Heap} {s₁ : Shared} {os1 : Os} {o : Obj} {x : Ow} (F1 : FIm w env Zo Z hb r os1 s₁.heap) (hp : placesOf (s₁.heap.objs.size, x) = [s₁.heap.objs.size])
    (new : OwAt w (s₁.heap.push o) (Zo ++ (s₁.heap.objs.size :: (places os1 ++ Z))) s₁.heap.objs.size x) :
    FIm w env Zo Z hb r ((s₁.heap.objs.size, x) :: os1) (s₁.heap.push o) ∧ SameM [] os1 ((s₁.heap.objs.size, x) :: os1) s₁ { s₁ with heap := s₁.heap.push o } := by
  have k : ∀ b x, s₁.heap.get? b = some x → (s₁.heap.push o).get? b = some x := fun _ _ e => Heap.get?_push_of_some _ e
  have hn : ∀ b ∈ placesOf (s₁.heap.objs.size, x), s₁.heap.get? b = none := fun b hb => by
    rw [hp, List.mem_singleton] at hb
    subst hb
    exact size_none fun _ _ e => e
  refine ⟨F1.add k hn (by rw [hp]; simp) (by rw [hp]; exact new), rfl, fun b o _ _ e => k b o e, fun b hb => ?_, fun b o e => ⟨o, k b o e⟩⟩
  rcases List.mem_append.mp (show b ∈ placesOf (s₁.heap.objs.size, x) ++ places os1 from hb) with q | q
  · exact .inr (hn b q)
  · exact .inl q
theorem EM.listO {elts pos} {P0 : D → Os → Prop} {P1 : List D → Os → Prop} (hd : EMs w n env r os (spliced (backTo pos (starEach elts env))) P1) (h : ∀ ds os' a, P1 ds os' → ds.length ≤ sizeLine ∧ P0 (.own a) ((a, .lst ds) :: os')) : EM w n env r os (eval (.List elts pos) env) P0 := fun A s Zo Z hb ao F =>
  PyProof.Rows.List_ (wpAny_mono (hd A s Zo Z hb ao F) (fun vs s₁ hZ => by
    obtain ⟨ds, os1, p1, r1, F1, m1⟩ := hZ
    obtain ⟨hz, p0⟩ := h ds os1 s₁.heap.objs.size p1
    have fr : ∀ b ∈ [s₁.heap.objs.size], s₁.heap.get? b = none := fun b hb => by rw [List.mem_singleton.mp hb]; exact size_none fun _ _ e => e
    have new : OwAt w (s₁.heap.push (lstO vs.toArray 0)) (Zo ++ (s₁.heap.objs.size :: (places os1 ++ Z))) s₁.heap.objs.size (.lst ds) :=
      ⟨vs.toArray, 0, Heap.get?_push_size _ rfl, (r1.grow (fun _ _ e => Heap.get?_push_of_some _ e) fr).less fun b hb => by simp only [List.mem_append, List.mem_cons, List.not_mem_nil] at hb ⊢; grind⟩
    obtain ⟨F2, m2⟩ := own_end F1 rfl new
    refine wpAny_newObj_type (h := ⟨.own s₁.heap.objs.size, _, p0, rfl, F2, m1.trans m2⟩) (by show vs.toArray.size ≤ sizeLine; rw [List.size_toArray, r1.len]; exact hz)) fun _ _ e => e)
noncomputable def YF (w : World) (n : Nat) (env : Env) (r : Rho) (t : Sem Value) (l : List D) : Prop := ∀ A s Z, AOk n A → FIe w env Z r s.heap → wpAny (MM w) A t (fun v s' => Kp s s' ∧ ∃ a vs m, v = .ref a ∧ s.heap.get? a = none ∧ s'.heap.get? a = some (lstO vs m) ∧ Rds w s'.heap (a :: Z) l vs.toList) NoE s
theorem EM.ofYF {t : Sem Value} {l : List D} {P0 : D → Os → Prop} (h : YF w n env r t l) (hp : ∀ a, P0 (.own a) ((a, .lst l) :: os)) : EM w n env r os t P0 := fun A s Zo Z hb ao F =>
  wpAny_mono (h A s _ ao F.fi.e) (fun v s' hZ => by
    obtain ⟨k, a, vs, m, e1, e2, e3, e4⟩ := hZ
    subst e1
    have F2 : FIm w env Zo Z hb r ((a, .lst l) :: os) s'.heap := by
      refine F.add k.k (fun b hb => ?_) (by simp [placesOf]) ⟨vs, m, e3, e4.less fun b hb => by simp only [placesOf, List.mem_append, List.mem_cons, List.not_mem_nil] at hb ⊢; grind⟩
      rw [List.mem_singleton.mp hb]; exact e2
    refine ⟨.own a, _, hp a, rfl, F2, k.eq, fun b o _ _ e => k.k b o e, fun b hb => ?_, fun b o e => ⟨o, k.k b o e⟩⟩
    rcases List.mem_append.mp (show b ∈ [a] ++ places os from hb) with q | q
    · rw [List.mem_singleton.mp q]; exact .inr e2
    · exact .inl q) fun _ _ e => e
theorem YF.comp {elt target iter : Expr} {ifs : List Expr} {scope sc : Scope} {pos : Pos} {xs : List Str} {k : Nat} {gs : Nat → List D} {p : Nat → Bool} {f : Nat → D} (hs : env.scope = sc) (hsrc : Src w n env r iter target xs k gs) (ok : okComp sc r scope xs = true)
    (hfold : ∀ x, foldedSetIterable iter env x = pure x) (hk : k ≤ sizeLine)
    (htest : ∀ i, i < k → ∀ env', env'.scope = relabS sc scope → YT w n env' (rcomp scope r xs (gs i)) ifs (p i))
    (helt : ∀ i, i < k → p i = true → ∀ env', env'.scope = relabS sc scope → Y w n env' (rcomp scope r xs (gs i)) (eval elt env') (f i)) :
    YF w n env r (eval (.ListComp elt [⟨target, iter, ifs, 0⟩] scope pos) env) (((List.range k).filter p).map f) := fun A s Z ao F => by
  rw [eval_ListComp]
  have okk := okComp_kind ok
  refine wpAny_comprehension_free (use := Option.none) rfl hfold (okComp_free F hs ok) okk.1 okk.2 (wpAny_mono (hsrc A s Z ao F) (fun xv s₁ h₁ => wpAny_mono h₁ (fun it s₂ h₂ => ?_) fun _ _ e => e) fun _ _ e => e)
  obtain ⟨I, fp, wr, P, St, rfl, k02, W, hst, hfp, hwr, hwl, hP⟩ := h₂
  refine comp_block (RR := fun acc C => compPost (MM w) A NoE Option.none (fun v s' => Kp s s' ∧ ∃ a vs m, v = .ref a ∧ s.heap.get? a = none ∧ s'.heap.get? a = some (lstO vs m) ∧ Rds w s'.heap (a :: Z) (((List.range k).filter p).map f) vs.toList) acc C) ao F hs ok k02 W hst hfp hwr hwl hP hk htest helt ?_
  intro D C h' tk m' ys N hD hC hDC hn hl hrd hkp
  refine ⟨m', hn, fun h'' hs'' => ⟨⟨?_, ?_⟩, D, ys, N, rfl, ?_, hs''.extBut _ _ hDC hl, hrd.mono (fun b o hb e => hs''.extBut b o (fun q => hb (by simp [q])) e) fun b hb => ?_⟩⟩
  · rw [k02.eq]
  · intro b o e
    have e2 := k02.k b o e
    exact hs''.extBut b o (fun q => by have := Heap.lt_size e2; rw [q] at this; exact Nat.lt_irrefl _ (Nat.lt_of_lt_of_le this hC)) (hkp b o (fun q => by rw [hwr b q] at e; cases e) e2)
  · exact get_none_of k02.k hD
  · simp only [List.mem_cons, List.mem_append] at hb ⊢; grind
end
end Uni
namespace Uni
section
variable {w : World} {n : Nat} {env : Env} {r : Rho} {os : Os} {P : Fl → Rho → Os → Prop} {rest : List Stmt}
theorem EM.bin {op : Operator} {l r' : Expr} {pos : Pos} {P0 P1 : D → Os → Prop} (ha : EM w n env r os (eval l env) P0) (hb : ∀ a os1, P0 a os1 → EM w n env r os1 (eval r' env) (fun b os2 => ∃ c, BinOK w n op a b c ∧ P1 c os2)) :
    EM w n env r os (eval (.BinOp l op r' pos) env) P1 := fun A s Zo Z hb' ao F =>
  wpAny_BinOp (wpAny_mono (ha A s Zo Z hb' ao F) (fun x s1 ⟨a, os1, pa, ra, F1, m1⟩ => wpAny_mono (hb a os1 pa A s1 Zo Z hb' ao F1) (fun y s2 ⟨b, os2, ⟨c, hc, pc⟩, rb, F2, m2⟩ =>
    wpAny_mono (hc A s2 _ x y ao F2.fi.e.wd F2.fi.e.z (m2.rd ra) rb) (fun v s3 ⟨k3, rc⟩ => ⟨c, os2, pc, rc, F2.keeps k3.k, (m1.trans m2).trans k3.sameM⟩) fun _ _ e => e) fun _ _ e => e) fun _ _ e => e)
theorem EM.binR {op : Operator} {l r' : Expr} {pos : Pos} {P0 P1 : D → Os → Prop} {b : D} (ha : EM w n env r os (eval l env) P0) (hb : Y w n env r (eval r' env) b) (h : ∀ a os1, P0 a os1 → ∃ c, BinOK w n op a b c ∧ P1 c os1) :
    EM w n env r os (eval (.BinOp l op r' pos) env) P1 := EM.bin ha fun a os1 p => EM.ofY hb (h a os1 p)
theorem EM.callN {x : Str} {p pos : Pos} {args : List Expr} {f : Addr} {ds : List D} {os1 pre post : Os} {Pd P0 : D → Os → Prop} (hpl : (backTo pos (starEach args env)).any (·.1) = false) (hf : Y w n env r (eval (.Name x p) env) (.fn f)) (hk : keepIn (KK w) (.ref f) = true)
    (ha : Ys w n env r (spliced (backTo pos (starEach args env))) ds) (hne : ArgsOk env args ds) (hos : os = pre ++ (os1 ++ post)) (hc : CallM w n f ds os1 Pd) (hp : ∀ d os2, Pd d os2 → P0 d (pre ++ (os2 ++ post))) : EM w n env r os (eval (.Call (.Name x p) args [] pos) env) P0 := fun A s Zo Z hb ao F => by
  subst hos
  refine wpAny_Call_Name_kw (wpAny_mono (hf A s _ ao F.fi.e) (fun v s₁ ⟨k1, rf⟩ => ?_) fun _ _ e => e)
  cases rf
  have F1 := F.keeps k1.k
  refine callWith_of (P := fun h => (KK w).In h) (by rw [hpl]; rfl) (keeps_K hk) (args_of ha ao F1.fi.e hne fun vs s' k rds => ?_)
  have F2 := F1.keeps k.k
  refine ⟨F2.fi.e.wd.k, wpAny_mono (hc.frame.run ao F2 rds) (fun v s2 hZ => ?_) fun _ _ e => e⟩
  obtain ⟨d, os', ⟨os2, e1, hd⟩, rv, F3, m3⟩ := hZ
  subst e1
  exact ⟨d, _, hp d os2 hd, rv, F3, (k1.trans k).sameM.trans m3⟩
inductive MethAt (w : World) (n : Nat) (env : Env) (r : Rho) (name : Str) (args : List Expr) (pos : Pos) (P0 : D → Os → Prop) : D → Os → Prop
  | mk {a c dx f : Addr} {fs : List (Str × D)} {pre osA post : Os} {ds : List D} {Pd : D → Os → Prop} (hin : (a, Ow.inst c dx fs) ∈ osA) (hn : fs.lookup name = none) (C : ClsOk w c name) (hf : findIn (KK w) (.ref c) name = some (some (.ref f))) (ht : isFn (KK w) (.ref f) = true) (hk : keepIn (KK w) (.ref f) = true)
      (ha : Ys w n env r (spliced (backTo pos (starEach args env))) ds) (hne : ArgsOk env args ds) (hc : CallM w n f (.own a :: ds) osA Pd) (hp : ∀ d os2, Pd d os2 → P0 d (pre ++ (os2 ++ post))) : MethAt w n env r name args pos P0 (.own a) (pre ++ (osA ++ post))
theorem EM.meth {o : Expr} {name : Str} {apos pos : Pos} {args : List Expr} {P0 : D → Os → Prop} (hpl : (backTo pos (starEach args env)).any (·.1) = false) (hm : MethForm env o name apos pos args) (ho : EM w n env r os (eval o env) (MethAt w n env r name args pos P0)) :
    EM w n env r os (eval (.Call (.Attribute o name apos) args [] pos) env) P0 := fun A s Zo Z hb ao F => by
  obtain ⟨pl, hm⟩ := hm
  refine MethodCall_ (pl := pl) (wpAny_mono (ho A s Zo Z hb ao F) (fun ov s₁ hZ => ?_) fun _ _ e => e) hm
  obtain ⟨d, os1, p1, rd, F1, m1⟩ := hZ
  cases p1 with
  | @mk a c dx f fs pre osA post ds Pd hin hn C hf ht hk ha hne hc hp =>
    cases rd
    obtain ⟨vs, m, h1, h2, h3⟩ := F1.ow (a, .inst c dx fs) (by simp [hin])
    have hl := (Rde.getNone h3 hn).1
    refine method_fn F1.fi.e.wd.k (instAt h1 h2) (plainGet_of C.pg).1 (plainGet_of C.pg).2 hf (beq_iff_eq.mp ht) (by show (lookIn name (dictOf vs.toList m)).map _ = _; rw [lookIn_dict, hl]; rfl) ?_
    refine callWith_of (P := fun h => (KK w).In h) (by rw [hpl]; rfl) (keeps_K hk) (args_of ha ao F1.fi.e hne fun us s' k rds => ?_)
    have F2 := F1.keeps k.k
    refine ⟨F2.fi.e.wd.k, wpAny_mono (hc.frame.run ao F2 (vs := .ref a :: us) ⟨_, us, rfl, rfl, rds⟩) (fun v s2 hZ => ?_) fun _ _ e => e⟩
    obtain ⟨d, os', ⟨os2, e1, hd⟩, rv, F3, m3⟩ := hZ
    subst e1
    exact ⟨d, _, hp d os2 hd, rv, F3, (m1.trans k.sameM).trans m3⟩
theorem XM.exprE {e : Expr} {pos : Pos} {P0 : D → Os → Prop} (hi : interactive env = false) (hs : swapsWith e none pos.line env = pure false) (he : EM w n env r os (eval e env) P0) (h : ∀ d os', P0 d os' → XM w n env r os' (execs rest env) P) : XM w n env r os (execs (.Expr e pos :: rest) env) P :=
  XM.seq fun A s Zo Z hb ao F => wpAny_Expr_any (wpAny_mono (he A s Zo Z hb ao F) (fun v s' ⟨d, os', p, rd, F', m⟩ => ⟨.nxt, r, os', h d os' p, rfl, F', m.wide⟩) fun _ _ e => e) hi hs

theorem args_ofE {A : Around} {s : Shared} {f : Value} {e : Expr} {more : List Expr} {pos : Pos} {P1 : List D → Os → Prop} {Q : Args → Shared → Prop} {Zo Z : List Addr} {hb : Heap} (ha : EMs w n env r os (spliced (backTo pos (starEach (e :: more) env))) P1) (ao : AOk n A) (F : FIm w env Zo Z hb r os s.heap)
    (he : starEach (e :: more) env = (false, eval e env) :: starEach more env)
    (hq : ∀ vs s' ds os', P1 ds os' → Rds w s'.heap (Zo ++ (places os' ++ Z)) ds vs → FIm w env Zo Z hb r os' s'.heap → SameM [] os os' s s' → Q ⟨vs, []⟩ s') : wpAny (MM w) A (evalArgs f true (backTo pos (starEach (e :: more) env)) []) Q NoE s := by
  have := ha A s Zo Z hb ao F
  rw [he] at this ⊢
  exact evalArgs_plain (wpAny_mono this (fun vs s' ⟨ds, os', p, rds, F', m⟩ => hq vs s' ds os' p rds F' m) fun _ _ e => e)
theorem in_mid {α : Type} (pre post : List α) (x : α) : x ∈ pre ++ x :: post := by simp
theorem FIm.setL {Zo Z : List Addr} {hb : Heap} {s s' : Shared} {a : Addr} {l l' : List D} {pre post : Os} {vs : Array Value} {m : Nat} (F : FIm w env Zo Z hb r (pre ++ (a, .lst l) :: post) s.heap) (hs : Heap.SameBut a s.heap s'.heap) (e : s' = { s with heap := s'.heap, toks := s'.toks })
    (hg : s'.heap.get? a = some (lstO vs m)) (rd : Rds w s.heap (Zo ++ (places (pre ++ (a, .lst l) :: post) ++ Z)) l' vs.toList) : FIm w env Zo Z hb r (pre ++ (a, .lst l') :: post) s'.heap ∧ ∀ Z1, SameM Z1 (pre ++ (a, .lst l) :: post) (pre ++ (a, .lst l') :: post) s s' := by
  have ha : a ∈ places (pre ++ (a, Ow.lst l) :: post) := placesOf_sub (p := (a, Ow.lst l)) (in_mid _ _ _) a (by simp [placesOf])
  have kk : ∀ b x, b ∉ [a] → s.heap.get? b = some x → s'.heap.get? b = some x := fun b x hb e => hs.extBut b x (fun q => hb (by simp [q])) e
  exact FIm.set (ch := [a]) F rfl (fun b hb => by rw [List.mem_singleton.mp hb]; exact ⟨by simp [placesOf], _, hg⟩) kk e ⟨vs, m, hg, Rds.mono (fun b o hb' e => kk b o (fun q => hb' (by rw [List.mem_singleton.mp q]; simp [ha])) e) (fun _ q => q) _ _ rd⟩
theorem EM.append {o e : Expr} {apos pos : Pos} {lb : Addr} {P0 P1 : D → Os → Prop} {l0 : List D} (hpl : (backTo pos (starEach [e] env)).any (·.1) = false) (hst : starEach [e] env = (false, eval e env) :: starEach [] env) (hm : MethForm env o "append" apos pos [e]) (ho : YM w n env r os (eval o env) (.own lb)) (hin : (lb, Ow.lst l0) ∈ os) (he : EM w n env r os (eval e env) P1)
    (h : ∀ d os1, P1 d os1 → ∃ pre l post, os1 = pre ++ (lb, .lst l) :: post ∧ l.length ≤ 1000 ∧ P0 .none (pre ++ (lb, .lst (l ++ [d])) :: post)) : EM w n env r os (eval (.Call (.Attribute o "append" apos) [e] [] pos) env) P0 := fun A s Zo Z hb ao F => by
  obtain ⟨pl, hm⟩ := hm
  refine MethodCall_ (pl := pl) (wpAny_mono (ho A s Zo Z hb ao F) (fun ov s₁ ⟨k1, rd⟩ => ?_) fun _ _ e => e) hm
  cases rd
  have F1 := F.keeps k1.k
  obtain ⟨vs0, m0, h0, _⟩ := F1.ow _ hin
  refine getMethod_list_append h0 rfl rfl (callWith_builtin hpl (args_ofE (P1 := fun ds os' => ∃ d, ds = [d] ∧ P1 d os') (EMs.cons hst he fun d os1 p => EMs.nil ⟨d, rfl, p⟩) ao F1 hst fun us s' ds os' ⟨d, e1, p⟩ rds F2 m2 => ?_))
  subst e1
  obtain ⟨v, rfl, rv⟩ := rds.one_of
  obtain ⟨pre, l, post, rfl, hz, p0⟩ := h d os' p
  obtain ⟨vs, m, h1, h2⟩ := F2.ow _ (in_mid pre post (lb, Ow.lst l))
  have hsz : vs.size ≤ sizeLine := by
    have e2 := h2.len
    rw [Array.length_toList] at e2
    rw [e2, sizeLine_eq]; apply Ar.sz <;> assumption
  refine append_at (hsz := hsz) h1 fun h' hs hg => ?_
  obtain ⟨F3, m3⟩ := FIm.setL (s' := { s' with heap := h' }) (l' := l ++ [d]) F2 hs rfl hg (by rw [Array.toList_push]; exact h2.append (Rds.one rv))
  exact ⟨.none, _, p0, rfl, F3, k1.sameM.trans (m2.trans (m3 []))⟩
theorem EM.pop0 {o e : Expr} {apos pos : Pos} {lb : Addr} {P0 : D → Os → Prop} {d : D} {l : List D} {pre post : Os} (hpl : (backTo pos (starEach [e] env)).any (·.1) = false) (hst : starEach [e] env = (false, eval e env) :: starEach [] env) (hm : MethForm env o "pop" apos pos [e]) (ho : YM w n env r os (eval o env) (.own lb)) (he : Y w n env r (eval e env) (.int 0))
    (hos : os = pre ++ (lb, .lst (d :: l)) :: post) (hz : l.length ≤ 1000) (hp : P0 d (pre ++ (lb, .lst l) :: post)) : EM w n env r os (eval (.Call (.Attribute o "pop" apos) [e] [] pos) env) P0 := fun A s Zo Z hb ao F => by
  subst hos
  obtain ⟨pl, hm⟩ := hm
  refine MethodCall_ (pl := pl) (wpAny_mono (ho A s Zo Z hb ao F) (fun ov s₁ ⟨k1, rd⟩ => ?_) fun _ _ e => e) hm
  cases rd
  have F1 := F.keeps k1.k
  obtain ⟨vs0, m0, h0, _⟩ := F1.ow _ (in_mid pre post (lb, Ow.lst (d :: l)))
  refine Copied.getMethod_pop_at h0 rfl rfl (callWith_builtin hpl (args_of (S.consA hst he Ys.nil) ao F1.fi.e (ArgsOk.cons hst) fun us s' k2 rds => ?_))
  have F2 := F1.keeps k2.k
  obtain ⟨v, rfl, t, rfl⟩ := rds.one_of
  obtain ⟨vs, m, h1, x, more, e1, h2, h3⟩ := F2.ow _ (in_mid pre post (lb, Ow.lst (d :: l)))
  have hv : vs = (x :: more).toArray := by rw [← e1, Array.toArray_toList]
  subst hv
  have hsz : (x :: more).toArray.size ≤ sizeLine := by
    have := h3.len
    rw [List.size_toArray, List.length_cons, sizeLine_eq]; lia
  refine call_meets PySem.F.slot_list_pop ⟨_, h1, rfl⟩ PySem.F.entry_list_pop (PySem.F.args_list_pop_2 _ _) (PySem.MeetsSeq.list_pop_at lb (x :: more).toArray m 0 t 0 x rfl ?_ (by simp) hsz) ⟨h1, ?_⟩
  · simp [seqIndex?]
  have e3 : Obj.mapSeq (fun xs => xs.eraseIdxIfInBounds 0) (lstO (x :: more).toArray m) = lstO more.toArray (m + 1) := by
    have q : (more.length == more.length + 1) = false := by simp
    simp [Obj.mapSeq, q, Array.eraseIdxIfInBounds]
  have hg : (s'.heap.update lb (Obj.mapSeq fun xs => xs.eraseIdxIfInBounds 0)).get? lb = some (lstO more.toArray (m + 1)) := by
    rw [← e3]
    exact Heap.get?_update_self _ h1 (by rw [e3]; rfl)
  obtain ⟨F3, m3⟩ := FIm.setL (s' := { s' with heap := s'.heap.update lb (Obj.mapSeq fun xs => xs.eraseIdxIfInBounds 0) }) (l' := l) F2 (Heap.SameBut.update ..) rfl hg h3
  exact ⟨d, _, hp, h2.mono (fun b o hb e => (Heap.SameBut.update ..).extBut b o (fun q => hb (by subst q; simp only [List.mem_append]; exact .inr (.inl (placesOf_sub (in_mid pre post (b, Ow.lst (d :: l))) b (by simp [placesOf]))))) e) (fun b hb => by rw [places_mid (a := lb) (o := Ow.lst (d :: l)) (o' := Ow.lst l) rfl] at hb; exact hb), F3, (k1.trans k2).sameM.trans (m3 [])⟩
end
end Uni
namespace Uni
noncomputable abbrev SK (w : World) : PySem.KeyKind PySem.Challenge.rw_nt0055_01.row.prog w Str := PySem.strKind PySem.Challenge.rw_nt0055_01.row.prog w
noncomputable def Rkv (w : World) (h : Heap) (Z : List Addr) : List (Str × D) → List (Str × Value) → Prop
  | [], [] => True
  | p :: fs, q :: kvs => p.1 = q.1 ∧ Rd w h Z p.2 q.2 ∧ Rkv w h Z fs kvs
  | _, _ => False
section
variable {w : World} {h h' : Heap} {Z Z' : List Addr}
theorem Rkv.names : ∀ {fs : List (Str × D)} {kvs : List (Str × Value)}, Rkv w h Z fs kvs → kvs.map (·.1) = fs.map (·.1)
  | [], [], _ => rfl
  | p :: fs, q :: kvs, r => by
    obtain ⟨h1, h2, h3⟩ := r
    rw [List.map_cons, List.map_cons, h1, h3.names]
theorem Rkv.len : ∀ {fs : List (Str × D)} {kvs : List (Str × Value)}, Rkv w h Z fs kvs → kvs.length = fs.length := fun {fs kvs} r => by
  have := congrArg List.length r.names
  simpa using this
theorem Rkv.mono (k : ExtZ Z h h') (z : ∀ b, b ∈ Z' → b ∈ Z) : ∀ {fs : List (Str × D)} {kvs : List (Str × Value)}, Rkv w h Z fs kvs → Rkv w h' Z' fs kvs
  | [], [], _ => trivial
  | p :: fs, q :: kvs, r => by
    obtain ⟨h1, h2, h3⟩ := r
    exact ⟨h1, h2.mono k z, Rkv.mono k z h3⟩
theorem rkv_of : ∀ {fs : List (Str × D)} {es : List DictEntry}, Rde w h Z fs es → ∃ kvs, PySem.Pairs (SK w) es kvs ∧ Rkv w h Z fs kvs
  | [], _, r => by cases r; exact ⟨[], .nil, trivial⟩
  | p :: ps, _, r => by
    obtain ⟨e, q, t, rfl, h1, h2, h3, h4⟩ := r
    obtain ⟨kvs, g1, g2⟩ := rkv_of h4
    exact ⟨(p.1, e.val) :: kvs, .cons (by rw [h1]; exact strKind_is _ w p.1 t) rfl g1, rfl, h3, g2⟩
theorem rde_of : ∀ {fs : List (Str × D)} {es : List DictEntry} {kvs : List (Str × Value)}, PySem.Pairs (SK w) es kvs → Rkv w h Z fs kvs → (∀ e ∈ es, ∃ k, (SK w).is k e.key = true ∧ e.hash = (SK w).hash k) → Rde w h Z fs es
  | [], _, [], g, _, _ => by cases g; rfl
  | p :: fs, _, q :: kvs, g, r, hk => by
    cases g with
    | @cons e _ es _ g1 g2 g3 =>
      obtain ⟨h1, h2, h3⟩ := r
      obtain ⟨k, k1, k2⟩ := hk e (.head _)
      obtain ⟨t, ht⟩ := Value.isStrOf_shape g1
      have hkq : k = q.1 := (SK w).inj _ _ _ k1 g1
      refine ⟨e, es, t, rfl, by rw [ht, h1], ?_, by rw [g2]; exact h2, rde_of g3 h3 fun e he => hk e (.tail _ he)⟩
      rw [k2, hkq, ← h1]; rfl
theorem rkv_stored {x : Str} {d : D} {v : Value} (rd : Rd w h Z d v) : ∀ {fs : List (Str × D)} {kvs : List (Str × Value)}, Rkv w h Z fs kvs → (fs.map (·.1)).Nodup → Rkv w h Z (fput x d fs) (stored kvs x v)
  | [], [], _, _ => ⟨rfl, rd, trivial⟩
  | p :: fs, q :: kvs, r, nd => by
    obtain ⟨h1, h2, h3⟩ := r
    rw [List.map_cons, List.nodup_cons] at nd
    unfold fput
    by_cases c : x = q.1
    · subst c
      rw [if_pos (by simp [h1])]
      have e : stored (q :: kvs) q.1 v = (q.1, v) :: kvs := by
        unfold stored
        rw [if_pos (by simp), List.map_cons, if_pos rfl, map_store_of_not_mem]
        rw [h3.names, ← h1]; exact nd.1
      rw [e]
      exact ⟨h1, rd, h3⟩
    · rw [if_neg (by rw [h1]; simpa using c)]
      have e : stored (q :: kvs) x v = q :: stored kvs x v := by
        unfold stored
        have c' : ¬ q.1 = x := fun e => c e.symm
        rw [List.any_cons, decide_eq_false c', Bool.false_or]
        split
        · rw [List.map_cons, if_neg c']
        · rfl
      rw [e]
      exact ⟨h1, h2, rkv_stored rd h3 nd.2⟩
theorem dictOf_of {a : Addr} {vs : Array DictEntry} {m : Nat} {es : List (Str × D)} (h1 : h.get? a = some (dctO vs m)) (h2 : Rde w h Z es vs.toList) (nd : (es.map (·.1)).Nodup) : ∃ kvs, h.DictOf (SK w) a kvs ∧ Rkv w h Z es kvs := by
  obtain ⟨kvs, g1, g2⟩ := rkv_of h2
  refine ⟨kvs, ⟨_, vs, m, h1, ⟨rfl, rfl, rfl⟩, rfl, fun e he => ?_, g1, by rw [g2.names]; exact nd⟩, g2⟩
  obtain ⟨x, t, e1, e2⟩ := rde_keys h2 e (Array.mem_toList_iff.mpr he)
  exact ⟨x, by rw [e1]; exact strKind_is _ w x t, e2⟩
theorem of_dictOf {a : Addr} {es : List (Str × D)} {kvs : List (Str × Value)} (hD : h.DictOf (SK w) a kvs) (r : Rkv w h Z es kvs) : ∃ vs m, h.get? a = some (dctO vs m) ∧ Rde w h Z es vs.toList := by
  obtain ⟨o, vs, m, h1, ⟨c1, c2, c3⟩, h2, h3, h4, h5⟩ := hD
  obtain ⟨cls, dict, data, slots⟩ := o
  simp only at c1 c2 c3 h2
  subst c1; subst c2; subst c3; subst h2
  exact ⟨vs, m, h1, rde_of h4 r fun e he => h3 e (Array.mem_toList_iff.mp he)⟩
theorem notMods (W : Wd w h) : (h.objs.size == sysModules) = false := by
  have : ((KK w).lookup 197).isSome = true := rfl
  obtain ⟨o, ho⟩ := Option.isSome_iff_exists.mp this
  have hlt := Heap.lt_size (W.k _ _ ho)
  refine Bool.eq_false_iff.mpr fun q => ?_
  have q : h.objs.size = 1 := beq_iff_eq.mp q
  have hlt : @LT.lt Nat _ 197 h.objs.size := hlt
  lia
end
section
variable {w : World} {n : Nat} {env : Env} {r : Rho} {os : Os} {P : Fl → Rho → Os → Prop} {rest : List Stmt}
theorem FIm.setD {Zo Z : List Addr} {hb : Heap} {s s' : Shared} {a : Addr} {l l' : List (Str × D)} {pre post : Os} {vs : Array DictEntry} {m : Nat} (F : FIm w env Zo Z hb r (pre ++ (a, .dct l) :: post) s.heap) (hs : Heap.SameBut a s.heap s'.heap) (e : s' = { s with heap := s'.heap, toks := s'.toks })
    (hg : s'.heap.get? a = some (dctO vs m)) (rd : Rde w s'.heap (Zo ++ (places (pre ++ (a, .dct l) :: post) ++ Z)) l' vs.toList) : FIm w env Zo Z hb r (pre ++ (a, .dct l') :: post) s'.heap ∧ ∀ Z1, SameM Z1 (pre ++ (a, .dct l) :: post) (pre ++ (a, .dct l') :: post) s s' := by
  have kk : ∀ b x, b ∉ [a] → s.heap.get? b = some x → s'.heap.get? b = some x := fun b x hb e => hs.extBut b x (fun q => hb (by simp [q])) e
  obtain ⟨_, _, _, _, nm⟩ := F.ow _ (in_mid pre post (a, Ow.dct l))
  exact FIm.set (ch := [a]) F rfl (fun b hb => by rw [List.mem_singleton.mp hb]; exact ⟨by simp [placesOf], _, hg⟩) kk e ⟨vs, m, hg, rd, nm⟩
inductive StoreAt (w : World) (n : Nat) (env : Env) (r : Rho) (o i : Expr) (P1 : Os → Prop) : D → Os → Prop
  | mk {d : D} {a : Addr} {x : Str} {es : List (Str × D)} {pre post : Os} (ho : YM w n env r (pre ++ (a, .dct es) :: post) (eval o env) (.own a)) (hi : YM w n env r (pre ++ (a, .dct es) :: post) (eval i env) (.str x)) (nd : (es.map (·.1)).Nodup) (hz : es.length ≤ 900)
      (h : P1 (pre ++ (a, .dct (fput x d es)) :: post)) : StoreAt w n env r o i P1 d (pre ++ (a, .dct es) :: post)
theorem XM.setI {o i value : Expr} {pos' pos : Pos} (hsw : swapsWith value (some (.Subscript o i pos')) pos.line env = pure false) (hv : EM w n env r os (eval value env) (StoreAt w n env r o i (fun os' => XM w n env r os' (execs rest env) P))) :
    XM w n env r os (execs (.Assign [.Subscript o i pos'] value pos :: rest) env) P :=
  XM.seq fun A s Zo Z hb ao F => by
    refine wpAny_Assign_Subscript (hs := hsw) (wpAny_mono (hv A s Zo Z hb ao F) (fun v s₁ hZ => ?_) fun _ _ e => e)
    obtain ⟨d, os1, p1, rd, F1, m1⟩ := hZ
    cases p1 with
    | @mk a x es pre post ho hi nd hz h =>
      refine wpAny_mono (ho A s₁ Zo Z hb ao F1) (fun ov s₂ ⟨k2, ro⟩ => ?_) fun _ _ e => e
      cases ro
      have F2 := F1.keeps k2.k
      refine wpAny_mono (hi A s₂ Zo Z hb ao F2) (fun iv s₃ hZ => ?_) fun _ _ e => e
      obtain ⟨k3, t, ri⟩ := hZ
      subst ri
      have F3 := F2.keeps k3.k
      have rd3 := rd.mono (.of_keeps (k2.trans k3).k) fun _ q => q
      obtain ⟨vs, m, g1, g2, g3⟩ := F3.ow _ (in_mid pre post (a, Ow.dct es))
      obtain ⟨kvs, hD, hR⟩ := dictOf_of g1 g2 nd
      refine wpAny_setItem_pairs (knd := SK w) (hsz := by rw [hR.len, sizeLine_eq]; apply Ar.sz9 <;> assumption) (strKind_is _ w x t) hD fun h' hD' hs => ?_
      have ha : a ∈ places (pre ++ (a, Ow.dct es) :: post) := placesOf_sub (p := (a, Ow.dct es)) (in_mid _ _ _) a (by simp [placesOf])
      have ez : ExtZ (Zo ++ (places (pre ++ (a, Ow.dct es) :: post) ++ Z)) s₃.heap h' := fun b o hb' e => hs.extBut b o (fun q => hb' (by subst q; simp [ha])) e
      obtain ⟨vs', m', g4, g5⟩ := of_dictOf hD' ((rkv_stored rd3 hR nd).mono ez fun _ q => q)
      obtain ⟨F4, m4⟩ := FIm.setD (s' := { s₃ with heap := h', toks := s₃.toks + 1 }) F3 hs rfl g4 g5
      exact ⟨.nxt, r, _, h, rfl, F4, (m1.wide).trans ((k2.trans k3).sameM.trans (m4 Zo))⟩
theorem Y.dictGet {o e : Expr} {apos pos : Pos} {es : List (Str × D)} {x : Str} (hpl : (backTo pos (starEach [e] env)).any (·.1) = false) (hst : starEach [e] env = (false, eval e env) :: starEach [] env) (hm : MethForm env o "get" apos pos [e]) (ho : Y w n env r (eval o env) (.dct es)) (he : Y w n env r (eval e env) (.str x)) :
    Y w n env r (eval (.Call (.Attribute o "get" apos) [e] [] pos) env) ((es.lookup x).getD .none) := fun A s Z ao F => by
  obtain ⟨pl, hm⟩ := hm
  refine MethodCall_ (pl := pl) (wpAny_mono (ho A s Z ao F) (fun ov s₁ hZ => ?_) fun _ _ e => e) hm
  obtain ⟨k1, a, vs, m, e1, e2, e3, e4, e5⟩ := hZ
  subst e1
  have hM := mapOf_rd e3 e4
  refine getMethod_builtin hM.typeIs PySem.F.plainAttrs_dict PySem.F.slot_dict_get PySem.F.type_dict_get hM.noDict (callWith_builtin hpl (args_of (S.consA hst he Ys.nil) ao (F.keeps k1.k) (ArgsOk.cons hst) fun us s' k2 rds => ?_))
  obtain ⟨v, rfl, t, rfl⟩ := rds.one_of
  have e4' := e4.mono (.of_keeps k2.k) fun _ q => q
  have hM' := mapOf_rd (k2.k _ _ e3) e4'
  refine call_meetsIn PySem.F.slot_dict_get hM'.typeIs PySem.F.entry_dict_get (PySem.F.args_dict_get_2 _ _) (meets_dict_get (SK w) a (strKind_is _ w x t) e5) ⟨_, hM', ?_⟩
  refine ⟨(k1.trans k2).trans (Kp.tok _), ?_⟩
  cases q : es.lookup x with
  | none => rw [findBy_getL (Rde.getNone e4' q).1]; rfl
  | some d => obtain ⟨u, f1, f2⟩ := Rde.get e4' q; rw [findBy_getL f1]; exact f2
inductive DictE (w : World) (n : Nat) (env : Env) (r : Rho) : List (Option Expr) → List Expr → List Str → List D → Prop
  | nil : DictE w n env r [] [] [] []
  | cons {x : Str} {k : Nat} {p : Pos} {e : Expr} {ks : List (Option Expr)} {vs : List Expr} {xs : List Str} {d : D} {ds : List D} : Y w n env r (eval e env) d → DictE w n env r ks vs xs ds → DictE w n env r (some (.Constant (.str x) k p) :: ks) (e :: vs) (x :: xs) (d :: ds)
theorem DictE.len {ks : List (Option Expr)} {vs : List Expr} {xs : List Str} {ds : List D} (h : DictE w n env r ks vs xs ds) : xs.length = ds.length ∧ ks.all (·.isSome) = true ∧ ks.length = vs.length := by
  induction h with
  | nil => exact ⟨rfl, rfl, rfl⟩
  | cons h1 h2 ih => exact ⟨by simp [ih.1], by simpa using ih.2.1, by simp [ih.2.2]⟩
theorem evalPairs_ok {pos : Pos} {ks : List (Option Expr)} {vs : List Expr} {xs : List Str} {ds : List D} (hk : DictE w n env r ks vs xs ds) : ∀ {A : Around} {s : Shared} {Z : List Addr}, AOk n A → FIe w env Z r s.heap →
    wpAny (MM w) A (evalPairs (pairTrees ks vs env pos)) (fun us s' => Kp s s' ∧ ∃ kvs, Carries (SK w) us kvs ∧ Rkv w s'.heap Z (xs.zip ds) kvs) NoE s := by
  induction hk with
  | nil => exact fun {A s Z} ao F => pairTrees_nil_walk ⟨Kp.refl s, [], trivial, trivial⟩
  | @cons x k p e ks vs xs d ds h1 h2 ih =>
    intro A s Z ao F
    refine pairTrees_cons_walk (wpAny_Constant_str (wpAny_mono (h1 A _ Z ao (F.keeps (Kp.tok (s := s) _).k)) (fun v s₁ ⟨k1, r1⟩ => wpAny_mono (ih ao ((F.keeps (Kp.tok (s := s) _).k).keeps k1.k)) (fun us s₂ hZ => ?_) fun _ _ e => e) fun _ _ e => e))
    obtain ⟨k2, kvs, g1, g2⟩ := hZ
    exact ⟨((Kp.tok _).trans k1).trans k2, (x, v) :: kvs, ⟨strKind_is _ w x _, rfl, g1⟩, rfl, r1.mono (.of_keeps k2.k) fun _ q => q, g2⟩
theorem zip_names : ∀ {xs : List Str} {ds : List D}, xs.length = ds.length → (xs.zip ds).map (·.1) = xs
  | [], [], _ => rfl
  | x :: xs, d :: ds, h => by rw [List.zip_cons_cons, List.map_cons, zip_names (by simpa using h)]
theorem EM.dictN {pos : Pos} {P0 : D → Os → Prop} (hp : ∀ a, P0 (.own a) ((a, .dct []) :: os)) : EM w n env r os (eval (.Dict [] [] pos) env) P0 := fun A s Zo Z hb ao F => by
  obtain ⟨F2, m2⟩ := own_end (o := dctO #[] 0) (x := .dct []) F rfl ⟨#[], 0, Heap.get?_push_size _ rfl, rfl, notMods F.fi.e.wd⟩
  exact wpAny_Dict_empty ⟨.own s.heap.objs.size, _, hp _, rfl, F2, m2⟩
theorem Y.dictAny {pos : Pos} : Y w n env r (eval (.Dict [] [] pos) env) .any := fun A s Z ao F => wpAny_Dict_empty ⟨Kp.push _ _, rfl⟩
theorem EM.dict {ks : List (Option Expr)} {vs : List Expr} {pos : Pos} {xs : List Str} {ds : List D} {P0 : D → Os → Prop} (hk : DictE w n env r ks vs xs ds) (h0 : ks ≠ []) (h15 : ks.length ≤ 15) (nd : xs.Nodup)
    (hp : ∀ a, P0 (.own a) ((a, .dct (xs.zip ds)) :: os)) : EM w n env r os (eval (.Dict ks vs pos) env) P0 := fun A s Zo Z hb ao F => by
  obtain ⟨hl, hall, hl2⟩ := hk.len
  have hz := zip_names hl
  have fr : ∀ b ∈ [s.heap.objs.size], s.heap.get? b = none := fun b hb => by rw [List.mem_singleton.mp hb]; exact size_none fun _ _ e => e
  have k0 : ∀ b o, s.heap.get? b = some o → (s.heap.push (dctO #[] 0)).get? b = some o := fun _ _ e => Heap.get?_push_of_some _ e
  have g0 : (s.heap.push (dctO #[] 0)).get? s.heap.objs.size = some (dctO #[] 0) := Heap.get?_push_size _ rfl
  have Fw : FIs w env Zo ([s.heap.objs.size] ++ (places os ++ Z)) hb r (s.heap.push (dctO #[] 0)) := F.fi.widen k0 (fun b hb => ⟨fr b hb, by rw [List.mem_singleton.mp hb]; exact ⟨_, g0⟩⟩) fun d v x => Rd.grow k0 fr d v x
  refine wpAny_Dict_walk (knd := SK w) hall hl2 h0 h15 (wpAny_mono (evalPairs_ok (A := A) (s := { s with heap := s.heap.push (dctO #[] 0) }) hk ao Fw.e) (fun us s₁ hZ => ?_) fun _ _ e => e)
  obtain ⟨k1, kvs, g1, g2⟩ := hZ
  have gs := k1.k _ _ g0
  refine ⟨kvs, g1, ?_, fun h' hD' hs => ?_⟩
  · obtain ⟨kv0, hD, hR⟩ := dictOf_of (w := w) (Z := []) (es := []) gs rfl List.nodup_nil
    cases kv0 with
    | nil => exact hD
    | cons _ _ => exact hR.elim
  have hnk : kvs.map (·.1) = xs := by rw [g2.names, hz]
  rw [merged_append_of_fresh [] kvs (by rw [List.nil_append, hnk]; exact nd), List.nil_append] at hD'
  have ez : ExtZ (Zo ++ ([s.heap.objs.size] ++ (places os ++ Z))) s₁.heap h' := fun b o hb' e => hs.extBut b o (fun q => hb' (by subst q; simp)) e
  obtain ⟨vs', m', g4, g5⟩ := of_dictOf hD' (g2.mono ez fun _ q => q)
  have kk : ∀ b o, s.heap.get? b = some o → h'.get? b = some o := fun b o e => hs.extBut b o (fun q => by subst q; rw [fr _ (by simp)] at e; cases e) (k1.k b o (k0 b o e))
  have F2 : FIm w env Zo Z hb r ((s.heap.objs.size, .dct (xs.zip ds)) :: os) h' := F.add kk fr (by simp [placesOf]) ⟨vs', m', g4, g5, notMods F.fi.e.wd⟩
  refine ⟨.own s.heap.objs.size, _, hp _, rfl, F2, ?_, fun b o _ _ e => kk b o e, fun b hb => ?_, fun b o e => ⟨o, kk b o e⟩⟩
  · rw [k1.eq]
  · rcases List.mem_append.mp (show b ∈ [s.heap.objs.size] ++ places os from hb) with q | q
    · exact .inr (fr b q)
    · exact .inl q

inductive PutAt (w : World) (n : Nat) (env : Env) (r : Rho) (ob : Expr) (attr : Str) (P1 : Os → Prop) : D → Os → Prop
  | mk {d : D} {a c dx : Addr} {fs : List (Str × D)} {pre post : Os} (ho : Y w n env r (eval ob env) (.own a)) (S : SetOk w c attr) (hl : fs.length ≤ 900) (h : P1 (pre ++ (a, .inst c dx (fput attr d fs)) :: post)) : PutAt w n env r ob attr P1 d (pre ++ (a, .inst c dx fs) :: post)
theorem XM.setE {ob : Expr} {attr : Str} {apos pos : Pos} {value : Expr} (hsw : swapsWith value (some (.Attribute ob attr apos)) pos.line env = pure false) (hv : EM w n env r os (eval value env) (PutAt w n env r ob attr (fun os' => XM w n env r os' (execs rest env) P))) :
    XM w n env r os (execs (.Assign [.Attribute ob attr apos] value pos :: rest) env) P := by
  refine XM.seq fun A s Zo Z hb ao F => ?_
  rw [plainObj_exec_Assign_Attribute _ _ _ _ _ hsw]
  refine wpAny_bind (wpAny_standAt (wpAny_bind (wpAny_mono (hv A s Zo Z hb ao F) (fun v s₁ hZ => ?_) fun _ _ e => e)))
  obtain ⟨d, os1, p1, rd, F1, m1⟩ := hZ
  cases p1 with
  | @mk a c dx fs pre post ho S hl h =>
    refine wpAny_bind ?_
    rw [assign_Attribute]
    refine wpAny_bind (wpAny_holding (wpAny_mono (ho A s₁ _ ao F1.fi.e) (fun ov s₂ ⟨k2, ro⟩ => ?_) fun _ _ e => e))
    cases ro
    have F2 := F1.keeps k2.k
    have rd2 := rd.mono (.of_keeps k2.k) fun _ q => q
    obtain ⟨vs, m, g1, g2, g3⟩ := F2.ow (a, .inst c dx fs) (by simp)
    refine wpAny_bind (wpAny_standAt (wpAny_bind (wpAny_holding (setOwn F2.fi.e.wd g1 g2 ?_ (rde_some g3) S fun h' e1 sb => ?_))))
    · rw [rde_len (rde_put (x := attr) (t := s₂.toks + 1) rd2 g3)]
      have := fput_len attr d fs; apply Ar.r9 <;> assumption
    · refine wpAny_release (wpAny_pure ?_)
      have ne : a ≠ dx := by
        rintro rfl
        rw [g1] at g2
        cases g2
      have kk : ∀ b x, b ∉ [dx] → s₂.heap.get? b = some x → h'.get? b = some x := fun b x hb e => sb.extBut b x (fun q => hb (by simp [q])) e
      have rdx : Rde w h' (Zo ++ (places (pre ++ (a, .inst c dx fs) :: post) ++ Z)) (fput attr d fs) (putL attr (PyData.keyHash w.params attr) (.str attr (s₂.toks + 1)) v vs.toList) := by
        have hdx : dx ∈ places (pre ++ (a, .inst c dx fs) :: post) := placesOf_sub (p := (a, .inst c dx fs)) (by simp) dx (by simp [placesOf])
        exact Rde.mono (fun b o hb' e => kk b o (fun q => hb' (by rw [List.mem_singleton.mp q]; simp [hdx])) e) (fun _ q => q) _ _ (rde_put (t := s₂.toks + 1) rd2 g3)
      obtain ⟨F3, sm⟩ := FIm.set (s := s₂) (s' := { s₂ with heap := h', toks := s₂.toks + 2 }) (ch := [dx]) (o' := .inst c dx (fput attr d fs)) F2 rfl (fun b hb' => by rw [List.mem_singleton.mp hb']; exact ⟨by simp [placesOf], _, e1⟩) kk rfl
        ⟨_, _, kk a _ (by simpa using ne) g1, e1, by simpa using rdx⟩
      exact ⟨.nxt, r, _, h, rfl, F3, m1.wide.trans (k2.sameM.trans (sm Zo))⟩
end
end Uni
namespace Uni
section
variable {w : World} {n : Nat} {env : Env} {r : Rho} {os : Os} {P : Fl → Rho → Os → Prop} {rest : List Stmt}
noncomputable abbrev PR : Program := PySem.Challenge.rw_nt0055_01.row.prog
theorem FIs.eqv {Zo Z Z' : List Addr} {hb h : Heap} (F : FIs w env Zo Z hb r h) (z : ∀ b, b ∈ Z' ↔ b ∈ Z) : FIs w env Zo Z' hb r h where
  e := by
    have sub : ∀ b, b ∈ Zo ++ Z' → b ∈ Zo ++ Z := fun b hb => by simp only [List.mem_append, z] at hb ⊢; exact hb
    refine ⟨F.e.wd, fun z hz => F.e.z z (sub z hz), ?_, fun x d e q => ?_, F.e.kd, F.e.gl, F.e.bi⟩
    · obtain ⟨m, hn, hm⟩ := F.e.ns
      exact ⟨m, hn, fun x d e q => let ⟨v, e1, e2⟩ := hm x d e q; ⟨v, e1, e2.less sub⟩⟩
    · obtain ⟨c, v, e1, e2, e3⟩ := F.e.cl x d e q
      exact ⟨c, v, e1, e2, e3.less sub⟩
  kp := F.kp
  wd := F.wd
  ln := F.ln
  fr := F.fr
  cells := F.cells
  inj := F.inj
  nofree := F.nofree
theorem places_mem {l : Os} {b : Addr} (h : b ∈ places l) : ∃ p ∈ l, b ∈ placesOf p := by
  induction l with
  | nil => cases h
  | cons p l ih =>
    rcases List.mem_append.mp h with h | h
    · exact ⟨p, .head _, h⟩
    · obtain ⟨p', h1, h2⟩ := ih h; exact ⟨p', .tail _ h1, h2⟩
theorem FIm.live {Zo Z : List Addr} {hb h : Heap} (F : FIm w env Zo Z hb r os h) {b : Addr} (hz : b ∈ places os) : ∃ o, h.get? b = some o := by
  obtain ⟨p, hp, hb⟩ := places_mem hz
  exact (F.ow p hp).live b hb
theorem FIm.aside {Zo Z wr : List Addr} {hb h h' : Heap} (F : FIm w env Zo Z hb r os h) (k : ∀ b o, h.get? b = some o → h'.get? b = some o) (hw : ∀ b ∈ wr, h.get? b = none ∧ ∃ o, h'.get? b = some o) : FIm w env Zo (wr ++ Z) hb r os h' where
  fi := (F.fi.widen k hw fun d v x => Rd.grow k (fun b hb => (hw b hb).1) d v x).eqv fun b => by simp only [List.mem_append]; grind
  ow := fun p hp => ((F.ow p hp).grow k fun b hb => (hw b hb).1).less fun b hb => by simp only [List.mem_append] at hb ⊢; grind
  nd := F.nd
  dj := fun b hb' => ⟨(F.dj b hb').1, fun q => (List.mem_append.mp q).elim (fun q => by obtain ⟨o, e⟩ := F.live hb'; rw [(hw b q).1] at e; cases e) (F.dj b hb').2.1, (F.dj b hb').2.2⟩
theorem FIm.turn {Zo Z wr : List Addr} {hb h h' : Heap} (F : FIm w env Zo (wr ++ Z) hb r os h) (k : ∀ b o, b ∉ wr → h.get? b = some o → h'.get? b = some o) (hw : ∀ b ∈ wr, b ∉ Zo ∧ b ∉ Z ∧ hb.get? b = none ∧ ∃ o, h'.get? b = some o) : FIm w env Zo (wr ++ Z) hb r os h' where
  fi := by
    have F1 : FIs w env Zo (wr ++ (places os ++ Z)) hb r h := F.fi.eqv fun b => by simp only [List.mem_append]; grind
    refine (F1.change (Wl := wr) (Wk := wr) k (fun b hb' => ⟨(hw b hb').1, fun q => ?_, (hw b hb').2.2.1⟩) fun b hb' => ⟨hb', (hw b hb').2.2.2⟩).eqv fun b => by simp only [List.mem_append]; grind
    rcases List.mem_append.mp q with q | q
    · exact (F.dj b q).2.1 (List.mem_append_left _ hb')
    · exact (hw b hb').2.1 q
  ow := fun p hp => (F.ow p hp).mono (fun b o hb' e => k b o (fun q => hb' (by simp only [List.mem_append]; grind)) e) (fun b hb' o e => k b o (fun q => (F.dj b (placesOf_sub hp b hb')).2.1 (List.mem_append_left _ q)) e) fun _ q => q
  nd := F.nd
  dj := F.dj
theorem FIm.drop {Zo Z wr : List Addr} {hb h h' : Heap} (F : FIm w env Zo (wr ++ Z) hb r os h) (k : ∀ b o, b ∉ wr → h.get? b = some o → h'.get? b = some o) (hw : ∀ b ∈ wr, b ∉ Zo ∧ b ∉ Z ∧ hb.get? b = none) : FIm w env Zo Z hb r os h' where
  fi := by
    have F1 : FIs w env Zo (wr ++ (places os ++ Z)) hb r h := F.fi.eqv fun b => by simp only [List.mem_append]; grind
    refine F1.change (Wl := wr) (Wk := []) k (fun b hb' => ⟨(hw b hb').1, fun q => ?_, (hw b hb').2.2⟩) fun b hb' => (by cases hb')
    rcases List.mem_append.mp q with q | q
    · exact (F.dj b q).2.1 (List.mem_append_left _ hb')
    · exact (hw b hb').2.1 q
  ow := fun p hp => (F.ow p hp).mono (fun b o hb' e => k b o (fun q => hb' (by simp only [List.mem_append]; grind)) e) (fun b hb' o e => k b o (fun q => (F.dj b (placesOf_sub hp b hb')).2.1 (List.mem_append_left _ q)) e) fun b hb => by simp only [List.mem_append] at hb ⊢; grind
  nd := F.nd
  dj := fun b hb' => ⟨(F.dj b hb').1, fun q => (F.dj b hb').2.1 (List.mem_append_right _ q), (F.dj b hb').2.2⟩
theorem FIm.back {Zo Z wr : List Addr} {hb h : Heap} (F : FIm w env Zo (wr ++ Z) hb r os h) : FIm w env Zo Z hb r os h where
  fi := FIs.narrow (Wl := wr) (F.fi.eqv fun b => by simp only [List.mem_append]; grind)
  ow := fun p hp => (F.ow p hp).less fun b hb => by simp only [List.mem_append] at hb ⊢; grind
  nd := F.nd
  dj := fun b hb' => ⟨(F.dj b hb').1, fun q => (F.dj b hb').2.1 (List.mem_append_right _ q), (F.dj b hb').2.2⟩
theorem SameM.rdY {Y Z : List Addr} {o1 o2 : Os} {s s' : Shared} {d : D} {v : Value} (x : SameM Y o1 o2 s s') (rd : Rd w s.heap (Y ++ (places o1 ++ Z)) d v) : Rd w s'.heap (Y ++ (places o2 ++ Z)) d v := by
  have g := Rd.grow (Zo := (places o2).filter fun b => (s.heap.get? b).isNone) (fun b o e => e) (fun b hb => by simpa using (List.mem_filter.mp hb).2) d v rd
  refine g.mono (fun b o hb e => x.k b o (fun q => hb ?_) (fun q => hb ?_) e) fun b hb => ?_
  · simp only [List.mem_append]; exact .inr (.inl q)
  · simp only [List.mem_append]; exact .inr (.inr (.inl q))
  · simp only [List.mem_append] at hb ⊢
    rcases hb with q | q | q
    · exact .inr (.inl q)
    · rcases x.fr b q with q' | q'
      · exact .inr (.inr (.inl q'))
      · exact .inl (List.mem_filter.mpr ⟨q, by rw [q']; rfl⟩)
    · exact .inr (.inr (.inr q))
theorem SameM.more {Y Y' : List Addr} {o1 o2 : Os} {s s' : Shared} (x : SameM Y o1 o2 s s') (h : ∀ b, b ∈ Y → b ∈ Y') : SameM Y' o1 o2 s s' := ⟨x.eq, fun b o h1 h2 e => x.k b o (fun q => h1 (h b q)) h2 e, x.fr, x.lv⟩

noncomputable def TgtOK (w : World) (env : Env) (target : Expr) (g : D) (f : Rho → Rho) : Prop := ∀ A s Zo Z hb r v (Q : Unit → Shared → Prop), A.handled = none → FIs w env Zo Z hb r s.heap → Rd w s.heap (Zo ++ Z) g v →
  (∀ s', FIs w env Zo Z hb (f r) s'.heap → Same Zo s s' → Q () s') → wpAny (MM w) A (assign target env v) Q NoE s
theorem TgtOK.name {x : Str} {p : Pos} {g : D} (hx : KindOk env x) : TgtOK w env (.Name x p) g (fun r => rset r x g) := fun A s Zo Z hb r v Q hh F rd hq => wpAny_assign_Name (store_name F rd hx fun s' F' e _ => hq s' F' e)
theorem TgtOK.tup {elts : List Expr} {k : Nat} {p : Pos} {ds : List D} {xs : List Str} (hstar : (assignEach elts env).findIdx? (·.1) = none) (hst : StoresTo env ((assignEach elts env).map (·.2)) xs) (hl : xs.length = ds.length) : TgtOK w env (.Tuple elts k p) (.tup ds) (fun r => rsets r xs ds) := fun A s Zo Z hb r v Q hh F ⟨a, vs, m, e1, e2, e3, e4⟩ hq => by
  subst e1
  have hsz : vs.size = ds.length := by rw [← e4.len, Array.length_toList]
  have hn : (assignEach elts env).length = vs.size := by
    rw [hsz, ← hl]
    have : ∀ {ts xs}, StoresTo env ts xs → ts.length = xs.length := fun st => by induction st <;> simp_all
    rw [← this hst, List.length_map]
  refine assign_Tuple_tuple hh (tupO_isTup e3) hn hstar fun h' he => ?_
  have k2 := extBut_keeps he
  exact assignInOrder_ok hst (s := { s with heap := h' }) (F.keeps k2) (e4.mono' k2) hl fun s' F' e => hq s' F' (Same.trans (Same.heap k2) e)

noncomputable def SrcP (w : World) (env : Env) (r : Rho) (os : Os) (A : Around) (s : Shared) (Zo Z : List Addr) (hb : Heap) (target : Expr) (Pk : Nat → (Nat → D) → Os → Prop) (it : Value) (s₂ : Shared) : Prop :=
  ∃ k gs os1 I fp wr Pv St s', Pk k gs os1 ∧ it = .ref I ∧ FIm w env Zo Z hb r os1 s'.heap ∧ SameM [] os os1 s s' ∧ Kp s' s₂ ∧ Walks PR w A I fp wr k Pv St ∧ St 0 s₂.heap ∧ (∀ b ∈ fp, b ∉ Zo ∧ b ∉ places os1 ∧ ∃ o, s₂.heap.get? b = some o) ∧
    (∀ b ∈ wr, s'.heap.get? b = none) ∧ (∀ i h, St i h → ∀ b ∈ wr, ∃ o, h.get? b = some o) ∧ (∀ i v, i < k → Pv i v → Rd w s₂.heap (wr ++ (Zo ++ (places os1 ++ Z))) (gs i) v) ∧
    (∀ i v (s' : Shared) (Q : Unit → Shared → Prop) (E : Value → Shared → Prop), i < k → Pv i v → St (i + 1) s'.heap → Q () s' → wpAny (MM w) A (letOwnedTupleGo target it v) Q E s')
theorem forCore {A : Around} {s : Shared} {Zo Z : List Addr} {hb : Heap} {target iter : Expr} {body : List Stmt} {pos : Pos} {Pk : Nat → (Nat → D) → Os → Prop} {upd : D → Rho → Rho} {Inv : Nat → (Nat → D) → Nat → Rho → Os → Prop} (ao : AOk n A)
    (hfold : ∀ x, foldedSetIterable iter env x = pure x) (hsrc : wpAny (MM w) A (eval iter env) (fun xv s₁ => wpAny (MM w) A (pyIter xv) (fun it s₂ => SrcP w env r os A s Zo Z hb target Pk it s₂) NoE s₁) NoE s)
    (h0 : ∀ k gs os1, Pk k gs os1 → Inv k gs 0 r os1)
    (turn : ∀ k gs i r1 os1, i < k → Inv k gs i r1 os1 → TgtOK w env target (gs i) (upd (gs i)) ∧ XM w n env (upd (gs i) r1) os1 (execs body env) (fun f r' os' => match f with | .nxt | .cnt => Inv k gs (i + 1) r' os' | _ => False)) :
    wpAny (MM w) A (exec (.For target iter body [] pos) env) (fun fl s' => fl = .next ∧ ∃ k gs os0 r' os', Pk k gs os0 ∧ Inv k gs k r' os' ∧ FIm w env Zo Z hb r' os' s'.heap ∧ SameM Zo os os' s s') NoE s := by
  refine wpAny_For (wpAny_mono hsrc (fun xv s₁ h₁ => wpAny_mono h₁ (fun it s₂ h₂ => ?_) fun _ _ e => e) fun _ _ e => e) hfold
  obtain ⟨k, gs, os1, I, fp, wr, Pv, St, s0, hPk, rfl, F0, m0, k02, W, hst, hfp, hwr, hwl, hP, hgo⟩ := h₂
  have hi0 := h0 k gs os1 hPk
  have wz : ∀ b ∈ wr, b ∉ Zo ∧ b ∉ Z ∧ hb.get? b = none := fun b hbw => by
    have hn := hwr b hbw
    refine ⟨fun q => ?_, fun q => ?_, ?_⟩
    · obtain ⟨_, o, e⟩ := F0.fi.e.z b (by simp [q]); rw [hn] at e; cases e
    · obtain ⟨_, o, e⟩ := F0.fi.e.z b (by simp [q]); rw [hn] at e; cases e
    · cases q : hb.get? b with
      | none => rfl
      | some o => rw [F0.fi.kp b o q] at hn; cases hn
  have F2 : FIm w env Zo (wr ++ Z) hb r os1 s₂.heap := F0.aside k02.k fun b hb => ⟨hwr b hb, hwl _ _ hst b hb⟩
  have wold : ∀ b ∈ wr, s.heap.get? b = none := fun b hbw => by
    cases q : s.heap.get? b with
    | none => rfl
    | some o => obtain ⟨o', e⟩ := m0.lv b o q; rw [hwr b hbw] at e; cases e
  refine codeAny_forLoop_any (fun m s' => ∃ i r1 osi, Inv k gs i r1 osi ∧ i ≤ k ∧ m = k - i ∧ St i s'.heap ∧ FIm w env Zo (wr ++ Z) hb r1 osi s'.heap ∧ SameM Zo os osi s s' ∧ SameM (wr ++ Zo) os1 osi s₂ s')
    ?_ k ⟨0, r, os1, hi0, Nat.zero_le _, rfl, hst, F2, m0.wide.trans k02.sameM, .refl _⟩
  rintro m s' ⟨i, r1, osi, hI, hi, rfl, hst', F', sm, sm2⟩
  have step : ∀ (h' : Heap) (tk : Nat), (∀ b o, b ∉ wr → s'.heap.get? b = some o → h'.get? b = some o) → (∀ b ∈ wr, ∃ o, h'.get? b = some o) → SameM Zo os osi s { s' with heap := h', toks := tk } ∧ SameM (wr ++ Zo) os1 osi s₂ { s' with heap := h', toks := tk } := fun h' tk hk hl => by
    have lv : ∀ b o, s'.heap.get? b = some o → ∃ o', h'.get? b = some o' := fun b o e => by
      by_cases q : b ∈ wr
      · exact hl b q
      · exact ⟨o, hk b o q e⟩
    refine ⟨⟨by rw [sm.eq], fun b o h1 h2 e => hk b o (fun q => by rw [wold b q] at e; cases e) (sm.k b o h1 h2 e), sm.fr, fun b o e => let ⟨o', e'⟩ := sm.lv b o e; lv b o' e'⟩,
      ⟨by rw [sm2.eq], fun b o h1 h2 e => hk b o (fun q => h1 (List.mem_append_left _ q)) (sm2.k b o h1 h2 e), sm2.fr, fun b o e => let ⟨o', e'⟩ := sm2.lv b o e; lv b o' e'⟩⟩
  have fpk : ∀ {t t' : Shared} {oa : Os}, SameM (wr ++ Zo) os1 osi s₂ t → SameM Zo osi oa t t' → ∀ b ∈ fp, ∀ o, t.heap.get? b = some o → t'.heap.get? b = some o := fun {t t' oa} x y b hbf o e => by
    refine y.k b o (hfp b hbf).1 (fun q => ?_) e
    rcases x.fr b q with q | q
    · exact (hfp b hbf).2.1 q
    · obtain ⟨o', e'⟩ := (hfp b hbf).2.2; rw [q] at e'; cases e'
  by_cases hlt : i < k
  · refine W.item i s' _ _ hlt hst' fun v h' tk hPv hst3 hk3 => ?_
    obtain ⟨sm3, sm23⟩ := step h' tk hk3 (hwl _ _ hst3)
    have F3 : FIm w env Zo (wr ++ Z) hb r1 osi h' := F'.turn hk3 fun b hb' => ⟨(wz b hb').1, (wz b hb').2.1, (wz b hb').2.2, hwl _ _ hst3 b hb'⟩
    have rv : Rd w h' (Zo ++ (places osi ++ (wr ++ Z))) (gs i) v :=
      (sm23.rdY (Z := Z) ((hP i v hlt hPv).less fun b hb => by simp only [List.mem_append] at hb ⊢; grind)).less fun b hb => by simp only [List.mem_append] at hb ⊢; grind
    obtain ⟨ht, hx⟩ := turn k gs i r1 osi hlt hI
    refine hgo i v { s' with heap := h', toks := tk } _ _ hlt hPv hst3 (wpAny_mono (ht A { s' with heap := h', toks := tk } Zo _ hb r1 v (fun _ s4 => FIs w env Zo (places osi ++ (wr ++ Z)) hb (upd (gs i) r1) s4.heap ∧ Same Zo { s' with heap := h', toks := tk } s4) ao.hd F3.fi rv fun s4 F4 e4 => ⟨F4, e4⟩) (fun _ s4 ⟨F4, e4⟩ => ?_) fun _ _ e => e.elim)
    obtain ⟨F4m, m4⟩ := FIm.step (s := { s' with heap := h', toks := tk }) F3 F4 e4
    have hst4 : St (i + 1) s4.heap := W.frame _ _ _ hst3 (fpk sm23 m4)
    have sm4 := sm3.trans m4
    have sm24 := sm23.trans (m4.more (Y' := wr ++ Zo) fun b hb => by simp [hb])
    refine wpAny_mono (hx A s4 Zo (wr ++ Z) hb ao F4m) (fun fl s5 hZ => ?_) fun _ _ e => e.elim
    obtain ⟨f, r', os', p, q, F5, m5⟩ := hZ
    have hst5 : St (i + 1) s5.heap := W.frame _ _ _ hst4 (fpk sm24 m5)
    have sm5 := sm4.trans m5
    have sm25 := sm24.trans (m5.more (Y' := wr ++ Zo) fun b hb => by simp [hb])
    cases f with
    | nxt => cases q; exact ⟨k - (i + 1), by apply Ar.b2 <;> assumption, i + 1, r', os', p, hlt, rfl, hst5, F5, sm5, sm25⟩
    | cnt => cases q; exact ⟨k - (i + 1), by apply Ar.b2 <;> assumption, i + 1, r', os', p, hlt, rfl, hst5, F5, sm5, sm25⟩
    | brk => exact p.elim
    | ret d => exact p.elim
  · obtain rfl : i = k := Nat.le_antisymm hi (Nat.not_lt.mp hlt)
    refine W.done s' _ _ hst' fun h' tk hk3 => wpAny_execs_nil ?_
    exact ⟨rfl, i, gs, os1, r1, osi, hPk, hI, F'.drop hk3 wz, by rw [sm.eq], fun b o h1 h2 e => hk3 b o (fun q => by rw [wold b q] at e; cases e) (sm.k b o h1 h2 e), sm.fr, fun b o e =>
      let ⟨o', e'⟩ := sm.lv b o e; ⟨o', hk3 b o' (fun q => by rw [wold b q] at e; cases e) e'⟩⟩
theorem srcL {A : Around} {s : Shared} {Zo Z : List Addr} {hb : Heap} {iter target : Expr} {l : List D} (htgt : (∃ x p, target = .Name x p) ∨ (∃ es k p, target = .Tuple es k p) ∧ ∀ d ∈ l, ∃ ds, d = .tup ds) (ao : AOk n A) (F : FIm w env Zo Z hb r os s.heap) (hv : Y w n env r (eval iter env) (.lst l)) :
    wpAny (MM w) A (eval iter env) (fun xv s₁ => wpAny (MM w) A (pyIter xv) (fun it s₂ => SrcP w env r os A s Zo Z hb target (fun k gs os1 => k = l.length ∧ (gs = fun i => l.getD i .none) ∧ os1 = os) it s₂) NoE s₁) NoE s :=
  wpAny_mono (hv A s _ ao F.fi.e) (fun xv s₁ hZ => by
    obtain ⟨k1, a, vs, m, e1, e2, e3, e4⟩ := hZ
    subst e1
    have hL := lstO_isList e3
    have hlt : a < s₁.heap.objs.size := Heap.lt_size e3
    refine wpAny_pyIter_list hL ?_
    have hsz : vs.size = l.length := by rw [← e4.len, Array.length_toList]
    have W := Walks.list (prog := PySem.Challenge.rw_nt0055_01.row.prog) (w := w) ao.hd s₁.heap.objs.size a (Nat.ne_of_lt hlt) vs
    rw [hsz] at W
    have F1 := F.keeps k1.k
    have fr1 : ∀ b ∈ [s₁.heap.objs.size], s₁.heap.get? b = none := fun b hb => by rw [List.mem_singleton.mp hb]; exact size_none fun _ _ e => e
    have up : ∀ b o, s₁.heap.get? b = some o → (s₁.heap.push { cls := .type "list_iterator", data := .fields #[.ref a, .int 0 0] }).get? b = some o := fun b o e => Heap.get?_push_of_some _ e
    have gI : (s₁.heap.push { cls := .type "list_iterator", data := .fields #[.ref a, .int 0 0] }).get? s₁.heap.objs.size = some { cls := .type "list_iterator", data := .fields #[.ref a, .int 0 0] } := Heap.get?_push_size _ rfl
    have nI : ∀ b, b ∈ Zo ++ (places os ++ Z) → b ≠ s₁.heap.objs.size := fun b hb q => by
      obtain ⟨_, o, e⟩ := F1.fi.e.z b hb
      rw [fr1 b (by simp [q])] at e; cases e
    refine ⟨_, _, _, _, _, _, _, _, s₁, ⟨rfl, rfl, rfl⟩, rfl, F1, k1.sameM, Kp.push _ _, W, ⟨⟨_, gI, rfl, rfl⟩, hL.push _⟩, fun b hb => ?_, fr1, fun i h st b hb => ?_, fun i v hi hv => ?_, fun i v s' Q E hi hv st hq => ?_⟩
    · rcases List.mem_cons.mp hb with rfl | hb
      · exact ⟨fun q => nI _ (by simp [q]) rfl, fun q => nI _ (by simp [q]) rfl, _, gI⟩
      · rw [List.mem_singleton.mp hb]
        exact ⟨fun q => e2 (by simp [q]), fun q => e2 (by simp [q]), _, up _ _ e3⟩
    · rw [List.mem_singleton.mp hb]
      obtain ⟨o, e, _⟩ := st.1
      exact ⟨o, e⟩
    · exact rds_at (e4.grow up fr1) (by simpa using hv)
    · rcases htgt with ⟨x, p, rfl⟩ | ⟨⟨es, k, p, rfl⟩, ht⟩
      · exact wpAny_pure hq
      · have hd : l.getD i .none ∈ l := by
          rw [List.getD_eq_getElem?_getD, List.getElem?_eq_getElem hi]; exact List.getElem_mem hi
        have hr := rds_at (Z := Zo ++ (places os ++ Z)) e4 (by simpa using hv)
        obtain ⟨ds, e⟩ := ht _ hd
        rw [e] at hr
        obtain ⟨T, _, _, rfl, _⟩ := hr
        exact wpAny_letOwnedTupleGo_listiter st.1 hq) fun _ _ e => e
theorem srcT {A : Around} {s : Shared} {Zo Z : List Addr} {hb : Heap} {iter : Expr} {l : List D} {x : Str} {p : Pos} (ao : AOk n A) (F : FIm w env Zo Z hb r os s.heap) (hv : Y w n env r (eval iter env) (.tup l)) :
    wpAny (MM w) A (eval iter env) (fun xv s₁ => wpAny (MM w) A (pyIter xv) (fun it s₂ => SrcP w env r os A s Zo Z hb (.Name x p) (fun k gs os1 => k = l.length ∧ (gs = fun i => l.getD i .none) ∧ os1 = os) it s₂) NoE s₁) NoE s :=
  wpAny_mono (hv A s _ ao F.fi.e) (fun xv s₁ hZ => by
    obtain ⟨k1, a, vs, m, e1, e2, e3, e4⟩ := hZ
    subst e1
    have hL : s₁.heap.IsTuple a vs := ⟨_, e3, rfl, m, rfl⟩
    have hlt : a < s₁.heap.objs.size := Heap.lt_size e3
    refine wpAny_pyIter_tuple hL ?_
    have hsz : vs.size = l.length := by rw [← e4.len, Array.length_toList]
    have W := Walks.tuple (prog := PySem.Challenge.rw_nt0055_01.row.prog) (w := w) ao.hd s₁.heap.objs.size a (Nat.ne_of_lt hlt) vs
    rw [hsz] at W
    have F1 := F.keeps k1.k
    have fr1 : ∀ b ∈ [s₁.heap.objs.size], s₁.heap.get? b = none := fun b hb => by rw [List.mem_singleton.mp hb]; exact size_none fun _ _ e => e
    have up : ∀ b o, s₁.heap.get? b = some o → (s₁.heap.push { cls := .type "tuple_iterator", data := .fields #[.ref a, .int 0 0] }).get? b = some o := fun b o e => Heap.get?_push_of_some _ e
    have gI : (s₁.heap.push { cls := .type "tuple_iterator", data := .fields #[.ref a, .int 0 0] }).get? s₁.heap.objs.size = some { cls := .type "tuple_iterator", data := .fields #[.ref a, .int 0 0] } := Heap.get?_push_size _ rfl
    have nI : ∀ b, b ∈ Zo ++ (places os ++ Z) → b ≠ s₁.heap.objs.size := fun b hb q => by
      obtain ⟨_, o, e⟩ := F1.fi.e.z b hb
      rw [fr1 b (by simp [q])] at e; cases e
    refine ⟨_, _, _, _, _, _, _, _, s₁, ⟨rfl, rfl, rfl⟩, rfl, F1, k1.sameM, Kp.push _ _, W, ⟨⟨_, gI, rfl, rfl⟩, hL.at fun o e => up _ o e⟩, fun b hb => ?_, fr1, fun i h st b hb => ?_, fun i v hi hv => ?_, fun i v s' Q E hi hv st hq => wpAny_pure hq⟩
    · rcases List.mem_cons.mp hb with rfl | hb
      · exact ⟨fun q => nI _ (by simp [q]) rfl, fun q => nI _ (by simp [q]) rfl, _, gI⟩
      · rw [List.mem_singleton.mp hb]
        exact ⟨fun q => e2 (by simp [q]), fun q => e2 (by simp [q]), _, up _ _ e3⟩
    · rw [List.mem_singleton.mp hb]
      obtain ⟨o, e, _⟩ := st.1
      exact ⟨o, e⟩
    · exact rds_at (e4.grow up fr1) (by simpa using hv)) fun _ _ e => e
theorem srcR {A : Around} {s : Shared} {Zo Z : List Addr} {hb : Heap} {x : Str} {px : Pos} {p pos : Pos} {e : Expr} {P1 : Int → Os → Prop} (hx : env.kindOf "range" = some .globalImplicit) (he : starEach [e] env = (false, eval e env) :: starEach [] env) (hpl : (backTo pos (starEach [e] env)).any (·.1) = false)
    (ao : AOk n A) (F : FIm w env Zo Z hb r os s.heap) (hv : EM w n env r os (eval e env) (fun d os1 => ∃ b, d = .int b ∧ -(2 ^ 62) ≤ b ∧ b < 2 ^ 62 ∧ P1 b os1)) :
    wpAny (MM w) A (eval (.Call (.Name "range" p) [e] [] pos) env) (fun xv s₁ => wpAny (MM w) A (pyIter xv) (fun it s₂ => SrcP w env r os A s Zo Z hb (.Name x px) (fun k gs os1 => ∃ b, P1 b os1 ∧ k = b.toNat ∧ gs = fun i : Nat => .int i) it s₂) NoE s₁) NoE s := by
  refine wpAny_Call_Name_kw (bi_name F.fi.e hx (biRange (w := w)).e (biRange (w := w)).hv (biRange (w := w)).hn (biRange (w := w)).hd (PySem.callWith_type hpl (args_ofE (P1 := fun ds os' => ∃ d, ds = [d] ∧ ∃ b, d = .int b ∧ -(2 ^ 62) ≤ b ∧ b < 2 ^ 62 ∧ P1 b os') (EMs.cons he hv fun d os1 p => EMs.nil ⟨d, rfl, p⟩) ao F he fun vs s' ds os1 ⟨d, e1, b, e2, hb1, hb2, hp⟩ rds F1 m1 => ?_)))
  subst e1; subst e2
  obtain ⟨v, rfl, t, rfl⟩ := rds.one_of
  refine call_range_1 ?_
  generalize hs1 : ({ s' with heap := s'.heap.push { cls := .type "range", data := .fields #[.int 0 s'.toks, .int b t, .int 1 (s'.toks + 1)] }, toks := s'.toks + 1 + 1 } : Shared) = s1
  have hh1 : s1.heap = s'.heap.push { cls := .type "range", data := .fields #[.int 0 s'.toks, .int b t, .int 1 (s'.toks + 1)] } := by rw [← hs1]
  have k1 : Kp s' s1 := by rw [← hs1]; exact Kp.push _ _
  have hz1 : s1.heap.objs.size = s'.heap.objs.size + 1 := by rw [hh1, Heap.size_push]
  have hr : IsRange s1.heap s'.heap.objs.size 0 b 1 s'.toks t (s'.toks + 1) := by rw [hh1]; exact IsRange.new _ _ _ _ _ _ _
  refine wpAny_pyIter_range hr (small_one (by decide) (by decide) hb1 hb2) ?_
  have W := Walks.range (prog := PySem.Challenge.rw_nt0055_01.row.prog) (w := w) ao.hd s1.heap.objs.size 0 1 b.toNat
  have F2 := F1.keeps k1.k
  have fr1 : ∀ b ∈ [s1.heap.objs.size], s1.heap.get? b = none := fun b hb => by rw [List.mem_singleton.mp hb]; exact size_none fun _ _ e => e
  have nI : ∀ b, b ∈ Zo ++ (places os1 ++ Z) → b ≠ s1.heap.objs.size := fun b hb q => by
    obtain ⟨_, o, e⟩ := F2.fi.e.z b hb
    rw [fr1 b (by simp [q])] at e; cases e
  have esz : (b.toNat : Int) = Builtin.Range.rangeSize 0 b 1 := by
    rw [rangeSize_one]
    split <;> first | (apply Ar.e3 <;> assumption) | lia
  refine ⟨_, _, os1, _, _, _, _, _, s1, ⟨b, hp, rfl, rfl⟩, rfl, F2, m1.trans k1.sameM, Kp.push _ _, W, ?_, fun b hb => ?_, fr1, fun i h st b hb => ?_, fun i v hi hv => ?_, fun i v s' Q E hi hv st hq => wpAny_pure hq⟩
  · show Heap.get? _ _ = _
    refine (Heap.get?_push_size _ rfl).trans ?_
    rw [← esz]; simp
  · rw [List.mem_singleton.mp hb]
    exact ⟨fun q => nI _ (by simp [q]) rfl, fun q => nI _ (by simp [q]) rfl, _, Heap.get?_push_size _ rfl⟩
  · rw [List.mem_singleton.mp hb]
    exact ⟨_, st⟩
  · obtain ⟨t, hv⟩ := hv
    rw [hv]
    exact ⟨t, by rw [Int.mul_one, Int.zero_add]⟩
end
end Uni
namespace Uni
section
variable {w : World} {n : Nat} {env : Env} {r : Rho} {os : Os} {P : Fl → Rho → Os → Prop} {rest : List Stmt}
theorem XM.forL {target iter : Expr} {body : List Stmt} {pos : Pos} {l : List D} {upd : D → Rho → Rho} (Inv : Nat → Rho → Os → Prop) (htgt : (∃ x p, target = .Name x p) ∨ (∃ es k p, target = .Tuple es k p) ∧ ∀ d ∈ l, ∃ ds, d = .tup ds) (hfold : ∀ x, foldedSetIterable iter env x = pure x) (hv : Y w n env r (eval iter env) (.lst l))
    (h0 : Inv 0 r os) (turn : ∀ i r1 os1, i < l.length → Inv i r1 os1 → TgtOK w env target (l.getD i .none) (upd (l.getD i .none)) ∧ XM w n env (upd (l.getD i .none) r1) os1 (execs body env) (fun f r' os' => match f with | .nxt | .cnt => Inv (i + 1) r' os' | _ => False))
    (hend : ∀ r' os', Inv l.length r' os' → XM w n env r' os' (execs rest env) P) : XM w n env r os (execs (.For target iter body [] pos :: rest) env) P :=
  XM.seq fun A s Zo Z hb ao F => wpAny_mono (forCore (upd := upd) (Inv := fun k gs i r1 os1 => k = l.length ∧ (gs = fun i => l.getD i .none) ∧ Inv i r1 os1) ao hfold (srcL htgt ao F hv) (fun k gs os1 ⟨a, b, c⟩ => ⟨a, b, by rw [c]; exact h0⟩)
    (fun k gs i r1 os1 hi hZ => by
      obtain ⟨a, b, c⟩ := hZ
      subst a; subst b
      obtain ⟨h1, h2⟩ := turn i r1 os1 hi c
      refine ⟨h1, fun A s Zo Z hb ao F => wpAny_mono (h2 A s Zo Z hb ao F) (fun fl s' ⟨f, r', os', p, q⟩ => ⟨f, r', os', ?_, q⟩) fun _ _ e => e⟩
      cases f <;> first | exact ⟨rfl, rfl, p⟩ | exact p))
    (fun fl s' ⟨e, k, gs, os0, r', os', ⟨hk, _⟩, ⟨_, _, hI⟩, F', sm⟩ => by subst e; subst hk; exact ⟨.nxt, r', os', hend r' os' hI, rfl, F', sm⟩) fun _ _ e => e
theorem XM.forT {x : Str} {p : Pos} {iter : Expr} {body : List Stmt} {pos : Pos} {l : List D} (Inv : Nat → Rho → Os → Prop) (hx : KindOk env x) (hfold : ∀ x, foldedSetIterable iter env x = pure x) (hv : Y w n env r (eval iter env) (.tup l))
    (h0 : Inv 0 r os) (turn : ∀ i r1 os1, i < l.length → Inv i r1 os1 → XM w n env (rset r1 x (l.getD i .none)) os1 (execs body env) (fun f r' os' => match f with | .nxt | .cnt => Inv (i + 1) r' os' | _ => False))
    (hend : ∀ r' os', Inv l.length r' os' → XM w n env r' os' (execs rest env) P) : XM w n env r os (execs (.For (.Name x p) iter body [] pos :: rest) env) P :=
  XM.seq fun A s Zo Z hb ao F => wpAny_mono (forCore (upd := fun g r => rset r x g) (Inv := fun k gs i r1 os1 => k = l.length ∧ (gs = fun i => l.getD i .none) ∧ Inv i r1 os1) ao hfold (srcT ao F hv) (fun k gs os1 ⟨a, b, c⟩ => ⟨a, b, by rw [c]; exact h0⟩)
    (fun k gs i r1 os1 hi hZ => by
      obtain ⟨a, b, c⟩ := hZ
      subst a; subst b
      have h2 := turn i r1 os1 hi c
      refine ⟨TgtOK.name hx, fun A s Zo Z hb ao F => wpAny_mono (h2 A s Zo Z hb ao F) (fun fl s' ⟨f, r', os', p, q⟩ => ⟨f, r', os', ?_, q⟩) fun _ _ e => e⟩
      cases f <;> first | exact ⟨rfl, rfl, p⟩ | exact p))
    (fun fl s' ⟨e, k, gs, os0, r', os', ⟨hk, _⟩, ⟨_, _, hI⟩, F', sm⟩ => by subst e; subst hk; exact ⟨.nxt, r', os', hend r' os' hI, rfl, F', sm⟩) fun _ _ e => e
theorem XM.forR {x : Str} {px p pos pos' : Pos} {e : Expr} {body : List Stmt} (P1 : Int → Os → Prop) (Inv : Int → Nat → Rho → Os → Prop) (hx : KindOk env x) (hr : env.kindOf "range" = some .globalImplicit) (he : starEach [e] env = (false, eval e env) :: starEach [] env) (hpl : (backTo pos (starEach [e] env)).any (·.1) = false)
    (hfold : ∀ x, foldedSetIterable (.Call (.Name "range" p) [e] [] pos) env x = pure x) (hv : EM w n env r os (eval e env) (fun d os1 => ∃ b, d = .int b ∧ -(2 ^ 62) ≤ b ∧ b < 2 ^ 62 ∧ P1 b os1))
    (h0 : ∀ b os1, P1 b os1 → Inv b 0 r os1) (turn : ∀ b (i : Nat) r1 os1, i < b.toNat → Inv b i r1 os1 → XM w n env (rset r1 x (.int i)) os1 (execs body env) (fun f r' os' => match f with | .nxt | .cnt => Inv b (i + 1) r' os' | _ => False))
    (hend : ∀ b r' os', Inv b b.toNat r' os' → XM w n env r' os' (execs rest env) P) : XM w n env r os (execs (.For (.Name x px) (.Call (.Name "range" p) [e] [] pos) body [] pos' :: rest) env) P :=
  XM.seq fun A s Zo Z hb ao F => wpAny_mono (forCore (upd := fun g r => rset r x g) (Inv := fun k gs i r1 os1 => (gs = fun i : Nat => .int i) ∧ ∃ b, k = b.toNat ∧ Inv b i r1 os1) ao hfold (srcR hr he hpl ao F hv) (fun k gs os1 ⟨b, a, h1, h2⟩ => ⟨h2, b, h1, h0 b os1 a⟩)
    (fun k gs i r1 os1 hi hZ => by
      obtain ⟨a, b, h1, c⟩ := hZ
      subst a; subst h1
      have h2 := turn b i r1 os1 hi c
      refine ⟨TgtOK.name hx, fun A s Zo Z hb ao F => wpAny_mono (h2 A s Zo Z hb ao F) (fun fl s' ⟨f, r', os', p, q⟩ => ⟨f, r', os', ?_, q⟩) fun _ _ e => e⟩
      cases f <;> first | exact ⟨rfl, b, rfl, p⟩ | exact p))
    (fun fl s' ⟨e, k, gs, os0, r', os', _, ⟨_, b, hk, hI⟩, F', sm⟩ => by subst e; subst hk; exact ⟨.nxt, r', os', hend b r' os' hI, rfl, F', sm⟩) fun _ _ e => e
theorem XM.ifsJ {test : Expr} {body orelse : List Stmt} {pos : Pos} {b : Bool} (J : Rho → Os → Prop) (ht : YBM w n env r os (isTrue test env (eval test env)) b) (h1 : b = true → XM w n env r os (execs body env) (fun f r' os' => match f with | .nxt => J r' os' | f => P f r' os'))
    (h2 : b = false → XM w n env r os (execs orelse env) (fun f r' os' => match f with | .nxt => J r' os' | f => P f r' os')) (hj : ∀ r' os', J r' os' → XM w n env r' os' (execs rest env) P) : XM w n env r os (execs (.If test body orelse pos :: rest) env) P := by
  have conv : ∀ {t : Sem Flow}, XM w n env r os t (fun f r' os' => match f with | .nxt => J r' os' | f => P f r' os') → XM w n env r os t (BehM w n env rest P) := fun {t} h A s Zo Z hb ao F =>
    wpAny_mono (h A s Zo Z hb ao F) (fun fl s' ⟨f, r', os', p, q⟩ => ⟨f, r', os', by cases f <;> first | exact hj _ _ p | exact p, q⟩) fun _ _ e => e
  exact XM.ifs ht (fun e => conv (h1 e)) (fun e => conv (h2 e))
theorem XM.tupE {elts : List Expr} {k : Nat} {tpos pos : Pos} {value : Expr} {xs : List Str} (hs : swapsWithSole [.Tuple elts k tpos] value pos.line env = pure false) (hw : swappedStores [.Tuple elts k tpos] value env = pure none) (hstar : (assignEach elts env).findIdx? (·.1) = none) (hst : StoresTo env ((assignEach elts env).map (·.2)) xs)
    (hv : EM w n env r os (eval value env) (fun d os1 => ∃ ds, d = .tup ds ∧ xs.length = ds.length ∧ XM w n env (rsets r xs ds) os1 (execs rest env) P)) : XM w n env r os (execs (.Assign [.Tuple elts k tpos] value pos :: rest) env) P :=
  XM.seq fun A s Zo Z hb ao F => by
    refine PyProof.Rows.Assign_Tuple (wpAny_mono (hv A s Zo Z hb ao F) (fun v s₁ hZ => ?_) fun _ _ e => e) hs hw
    obtain ⟨d, os1, ⟨ds, hd, hl, h⟩, rd, F1, m1⟩ := hZ
    subst hd
    refine TgtOK.tup hstar hst hl A s₁ Zo _ hb r v _ ao.hd F1.fi rd fun s' F' e => ?_
    obtain ⟨F2, m2⟩ := F1.step F' e
    exact ⟨.nxt, _, os1, h, rfl, F2, m1.wide.trans m2⟩
theorem XM.tupSwE {elts : List Expr} {k : Nat} {tpos pos : Pos} {value : Expr} {xs : List Str} (hs : swapsWithSole [.Tuple elts k tpos] value pos.line env = pure false) (hw : swappedStores [.Tuple elts k tpos] value env = pure (some xs)) (hk : ∀ x ∈ xs, KindOk env x)
    (hv : EM w n env r os (eval value env) (fun d os1 => ∃ ds, d = .tup ds ∧ xs.length = ds.length ∧ XM w n env (rsets r xs.reverse ds.reverse) os1 (execs rest env) P)) : XM w n env r os (execs (.Assign [.Tuple elts k tpos] value pos :: rest) env) P :=
  XM.seq fun A s Zo Z hb ao F => by
    refine PyProof.Rows.Assign_Tuple_swapped (wpAny_mono (hv A s Zo Z hb ao F) (fun v s₁ hZ => ?_) fun _ _ e => e) hs hw
    obtain ⟨d, os1, ⟨ds, hd, hl, h⟩, rd, F1, m1⟩ := hZ
    subst hd
    obtain ⟨a, vs, m, e1, e2, e3, e4⟩ := rd
    subst e1
    have hsz : vs.size = ds.length := by rw [← e4.len, Array.length_toList]
    rw [hl, ← hsz]
    refine wpAny_unpackItems_tuple ao.hd ⟨_, e3, rfl, m, rfl⟩ fun h' he => ?_
    have k2 := extBut_keeps he
    have hst : ∀ l : List Str, (∀ x ∈ l, KindOk env x) → StoresTo env (l.map fun n => bindName env n) l := fun l => by
      induction l with
      | nil => intro _; exact .nil
      | cons x l ih => intro hx; exact .bnd (hx x List.mem_cons_self) (ih fun y hy => hx y (List.mem_cons_of_mem _ hy))
    refine assignInOrder_ok (hst xs.reverse fun x hx => hk x (List.mem_reverse.mp hx)) (s := { s₁ with heap := h' }) (F1.fi.keeps k2) (e4.mono' k2).rev (by simpa using hl) fun s' F' e => ?_
    obtain ⟨F2, m2⟩ := FIm.step (s := s₁) F1 F' (Same.trans (Same.heap k2) e)
    exact ⟨.nxt, _, os1, h, rfl, F2, m1.wide.trans m2⟩
theorem EM.itemL {value slice : Expr} {pos : Pos} {l : List D} {P0 : D → Os → Prop} (hv : Y w n env r (eval value env) (.lst l)) (hi : EM w n env r os (eval slice env) (fun d os1 => ∃ k : Int, d = .int k ∧ 0 ≤ k ∧ k < 2 ^ 63 ∧ ∃ x, l[k.toNat]? = some x ∧ P0 x os1)) (hs : PlainSub slice) :
    EM w n env r os (eval (.Subscript value slice pos) env) P0 := fun A s Zo Z hb ao F => by
  refine Subscript_ (wpAny_mono (hv A s _ ao F.fi.e) (fun o s₁ ⟨k1, rv⟩ => wpAny_mono (hi A s₁ Zo Z hb ao (F.keeps k1.k)) (fun i s₂ hZ => ?_) fun _ _ e => e) fun _ _ e => e)
  obtain ⟨d, os1, ⟨k, e0, h0, hk, x, hx, p0⟩, ri, F2, m2⟩ := hZ
  subst e0
  obtain ⟨t, e5⟩ := ri
  subst e5
  obtain ⟨a, vs, m, e1, e2, e3, e4⟩ := m2.rd rv
  subst e1
  have hL := lstO_isList e3
  obtain ⟨v, e6, e7⟩ := e4.get hx
  exact tail_any hL.typeIs slot_list_getitem.lookup (wpAny_getItem_list hL h0 hk (by simpa using e6) ⟨x, os1, p0, e7, F2, k1.sameM.trans m2⟩) (hs _ _)
end
section
variable {w : World} {n : Nat}
theorem CallM.frz {f : Addr} {ds : List D} {d' : D} (hc : CallM w n f ds [] (fun d os' => Frz os' d d')) : CallOK w n f ds d' := fun A s Z vs ao W hz rd => by
  refine codeAny_mono (hc A s Z s.heap vs ao ⟨W, hz, W, fun b o e => e, fun p hp => (by cases hp), List.nodup_nil, fun b hb => (by cases hb)⟩ rd) fun res s' hZ => ?_
  obtain ⟨v, d, os', e1, hd, rv, ow, nd, dj, sm, kb⟩ := hZ
  exact ⟨v, e1, ⟨sm.eq, kb⟩, hd.rd ow (fun b hb => List.mem_append_right _ hb) (fun b hb => (dj b hb).1) _ rv⟩
theorem CallM.ofOK {f : Addr} {ds : List D} {d : D} {os : Os} {Pd : D → Os → Prop} (hc : CallOK w n f ds d) (hp : Pd d os) : CallM w n f ds os Pd := fun A s Z hb vs ao p rd => by
  refine codeAny_mono (hc A s _ vs ao p.W p.hz rd) fun res s' hZ => ?_
  obtain ⟨v, e, k, rv⟩ := hZ
  exact ⟨v, d, os, e, hp, rv, fun q hq => (p.ow q hq).mono (.of_keeps k.k) (fun b _ o e => k.k b o e) fun _ q => q, p.nd, p.dj, k.sameM, fun b o e => k.k b o (p.kb b o e)⟩
theorem mkM {C f : Addr} {ds : List D} {Q : Addr → Os → Prop} (hm : makesIn (KK w) C = true) (hi : findIn (KK w) (.ref C) "__init__" = some (some (.ref f))) (hf : typeIn (KK w) (.ref f) = some (.type "function"))
    (hinit : ∀ x dx, CallM w n f (.own x :: ds) [(x, .inst C dx [])] (fun d os' => d = .none ∧ Q x os')) : CallM w (n + 1) C ds [] (fun d os' => ∃ x, d = .own x ∧ Q x os') := fun A s Z hb vs ao p rd => by
  have W := p.W
  obtain ⟨hh, g, dr, t, oss⟩ := s
  refine make_core (makes_of W.k hm) (looks_findIn W.k hi) (fun self => bind_fn W.k self hf) (.inl rfl) ?_
  have k : ∀ b o, hh.get? b = some o → ((hh.push emptyDict).push (instObj C hh.objs.size)).get? b = some o := fun b o e => Heap.get?_push_of_some _ (Heap.get?_push_of_some _ e)
  have g1 : ((hh.push emptyDict).push (instObj C hh.objs.size)).get? (hh.objs.size + 1) = some (instObj C hh.objs.size) := by
    have := Heap.get?_push_size (hh.push emptyDict) (o := instObj C hh.objs.size) rfl
    rwa [Heap.size_push] at this
  have g2 : ((hh.push emptyDict).push (instObj C hh.objs.size)).get? hh.objs.size = some (dctO #[] 0) := Heap.get?_push_of_some _ (Heap.get?_push_size _ rfl)
  have fr : ∀ b ∈ [hh.objs.size + 1, hh.objs.size], hh.get? b = none := fun b hb => by
    cases q : hh.get? b with
    | none => rfl
    | some o =>
      have h1 : @LT.lt Nat _ b hh.objs.size := Heap.lt_size q
      simp only [List.mem_cons, List.not_mem_nil, or_false] at hb
      rcases hb with rfl | rfl <;> lia
  have nz : ∀ b ∈ [hh.objs.size + 1, hh.objs.size], b ∉ Z := fun b hb hz' => by
    obtain ⟨_, o, e⟩ := p.hz b hz'
    rw [fr b hb] at e; cases e
  have nb : ∀ b ∈ [hh.objs.size + 1, hh.objs.size], hb.get? b = none := fun b hbm => by
    cases q : hb.get? b with
    | none => rfl
    | some o => have := p.kb b o q; rw [show hh.get? b = none from fr b hbm] at this; cases this
  have pre : PreM w ⟨(hh.push emptyDict).push (instObj C hh.objs.size), g, dr, t, oss⟩ Z hb [(hh.objs.size + 1, .inst C hh.objs.size [])] := by
    refine ⟨W.keeps k, fun z hzm => ?_, p.wb, fun b o e => k b o (p.kb b o e), fun q hq => ?_, ?_, fun b hb => ⟨nz b hb, nb b hb⟩⟩
    · rcases List.mem_append.mp hzm with q | q
      · refine ⟨?_, ?_⟩
        · cases e : (KK w).lookup z with
          | none => rfl
          | some o => have := W.k _ _ e; rw [fr z q] at this; cases this
        · rcases List.mem_cons.mp q with rfl | q
          · exact ⟨_, g1⟩
          · rcases List.mem_cons.mp q with rfl | q
            · exact ⟨_, g2⟩
            · cases q
      · obtain ⟨a, o, e⟩ := p.hz z q
        exact ⟨a, o, k _ _ e⟩
    · rw [List.mem_singleton.mp hq]
      exact ⟨#[], 0, g1, g2, rfl⟩
    · show [hh.objs.size + 1, hh.objs.size].Nodup
      simp
  have ao' : AOk n (A.under (.builtin "type.__call__" ⟨.ref C :: vs, []⟩)) :=
    ⟨ao.hd, by have := ao.dp; show A.depth + 1 + n < _; apply Ar.d3 <;> assumption, by have := ao.un; show A.units + 1 + 100 * n < _; apply Ar.y9 <;> assumption⟩
  refine codeAny_mono (hinit (hh.objs.size + 1) hh.objs.size _ _ Z hb (.ref (hh.objs.size + 1) :: vs) ao' pre ⟨_, _, rfl, rfl, Rds.grow (Z := Z) rd k fr⟩) fun r s' hZ => ?_
  obtain ⟨v, d, os', e1, ⟨e2, hQ⟩, rv, ow, nd, dj, sm, kb⟩ := hZ
  subst e1; subst e2
  cases rv
  refine ⟨rfl, .ref (hh.objs.size + 1), .own (hh.objs.size + 1), os', rfl, ⟨_, rfl, hQ⟩, rfl, ow, nd, dj, ⟨by rw [sm.eq], fun b o _ _ e => sm.k b o (by simp) (fun q => ?_) (k b o e), fun b hb => ?_, fun b o e => sm.lv b o (k b o e)⟩, kb⟩
  · rw [fr b q] at e; cases e
  · rcases sm.fr b hb with q | q
    · exact .inr (fr b q)
    · refine .inr ?_
      cases e : hh.get? b with
      | none => rfl
      | some o => rw [k b o e] at q; cases q
end
end Uni
namespace Uni
section
variable {w : World} {n : Nat} {env : Env} {r : Rho}
theorem biIsi : BiOk w "isinstance" (.builtin "isinstance") := ⟨by kernel_rfl, by kernel_rfl, by decide, rfl⟩
theorem biBool : BiOk w "bool" (.type "bool") := ⟨by kernel_rfl, by kernel_rfl, by decide, rfl⟩
noncomputable def likeD : D → D → Bool
  | .str a, .str b => a == b
  | .bool a, .bool b => a == b
  | _, _ => false
noncomputable def isBoolD : D → Bool
  | .bool _ => true
  | _ => false
inductive SameK : D → D → Prop
  | str (a b : Str) : SameK (.str a) (.str b)
  | bool (a b : Bool) : SameK (.bool a) (.bool b)
theorem likeD_eq {a b : D} (h : SameK a b) : likeD a b = true ↔ a = b := by
  cases h <;> simp [likeD]
theorem S.isBool {p pos p2 : Pos} {e : Expr} {d : D} (hx : env.kindOf "isinstance" = some .globalImplicit) (hb : env.kindOf "bool" = some .globalImplicit) (he : starEach [e, .Name "bool" p2] env = (false, eval e env) :: starEach [.Name "bool" p2] env)
    (he' : starEach [.Name "bool" p2] env = (false, eval (.Name "bool" p2) env) :: starEach [] env) (hpl : (backTo pos (starEach [e, .Name "bool" p2] env)).any (·.1) = false) (hd : (∃ a, d = .str a) ∨ ∃ a, d = .bool a) (ha : Y w n env r (eval e env) d) :
    Y w n env r (eval (.Call (.Name "isinstance" p) [e, .Name "bool" p2] [] pos) env) (.bool (isBoolD d)) := fun A s Z ao F => by
  refine wpAny_Call_Name_kw (bi_name F hx (biIsi (w := w)).e (biIsi (w := w)).hv (biIsi (w := w)).hn (biIsi (w := w)).hd (callWith_builtin hpl ?_))
  have items : wpAny (MM w) A (spliced (backTo pos (starEach [e, .Name "bool" p2] env))) (fun vs s' => Kp s s' ∧ ∃ v, vs = [v, .type "bool"] ∧ Rd w s'.heap Z d v) NoE s :=
    wpAny_items_cons (wpAny_mono (ha A s Z ao F) (fun v s₁ ⟨k1, r1⟩ => wpAny_items_cons (bi_name (F.keeps k1.k) hb (biBool (w := w)).e (biBool (w := w)).hv (biBool (w := w)).hn (biBool (w := w)).hd (wpAny_items_nil ⟨k1, v, rfl, r1⟩)) he') fun _ _ e => e) he
  rw [he] at items ⊢
  refine evalArgs_plain (wpAny_mono items (fun vs s' hZ => ?_) fun _ _ e => e)
  obtain ⟨k, v, e1, r1⟩ := hZ
  subst e1
  rcases hd with ⟨a, rfl⟩ | ⟨a, rfl⟩
  · obtain ⟨t, rfl⟩ := r1
    exact PySem.IsiPair.str_bool ⟨k.trans (Kp.tok _), rfl⟩
  · cases r1
    exact PySem.IsiPair.bool_bool ⟨k, rfl⟩
end
section
variable {w : World} {n : Nat}
set_option maxHeartbeats 4000000
theorem like_ok {a b : D} (h : SameK a b) : CallOK w (n + 1) 204 [a, b] (.bool (likeD a b)) := by
  cases h
  all_goals
    refine call_fn (ps := ["one", "other"]) rfl rfl rfl (fun vs hl => ?_) (fun env hs => ?_)
    · obtain ⟨a, b, rfl⟩ := L2 hl; rfl
  · refine X.ret (Y.boolop (Y.and_cons (S.cmpV rfl (S.loc (kOf hs rfl) rfl rfl) (S.loc (kOf hs rfl) rfl rfl) CmpOK.eqS) (fun hq => Y.bo_last (S.cmpV rfl (S.isBool (kOf hs rfl) (kOf hs rfl) rfl rfl rfl (.inl ⟨_, rfl⟩) (S.loc (kOf hs rfl) rfl rfl)) (S.isBool (kOf hs rfl) (kOf hs rfl) rfl rfl rfl (.inl ⟨_, rfl⟩) (S.loc (kOf hs rfl) rfl rfl)) CmpOK.eqB)))) (.inl (rb ?_))
    simp [likeD, isBoolD]
  · refine X.ret (Y.boolop (Y.and_cons (S.cmpV rfl (S.loc (kOf hs rfl) rfl rfl) (S.loc (kOf hs rfl) rfl rfl) CmpOK.eqB) (fun hq => Y.bo_last (S.cmpV rfl (S.isBool (kOf hs rfl) (kOf hs rfl) rfl rfl rfl (.inr ⟨_, rfl⟩) (S.loc (kOf hs rfl) rfl rfl)) (S.isBool (kOf hs rfl) (kOf hs rfl) rfl rfl rfl (.inr ⟨_, rfl⟩) (S.loc (kOf hs rfl) rfl rfl)) CmpOK.eqB)))) (.inl (rb ?_))
    simp [likeD, isBoolD]
noncomputable abbrev rmF (m : Rm) : List (Str × D) := [("default", m.df), ("starts", .lst (m.st.map .int)), ("values", .lst m.va)]
theorem rmnew_ok {d : D} : CallM w (n + 2) 249 [d] [] (fun o os' => ∃ x, o = .own x ∧ ∃ dx, os' = [(x, .inst 249 dx (rmF ⟨d, [0], [d]⟩))]) := by
  refine mkM (f := 218) rfl rfl rfl fun x dx => ?_
  refine call_fnM (ps := ["self", "default"]) rfl rfl rfl (fun vs hl => ?_) (fun env hs => ?_)
  · obtain ⟨a, b, rfl⟩ := L2 hl; rfl
  refine XM.setA (pre := []) (post := []) rfl (YM.of (S.loc (kOf hs rfl) rfl rfl)) (S.loc (kOf hs rfl) rfl rfl) ⟨rfl, rfl, rfl, rfl⟩ rfl (Nat.le_of_ble_eq_true rfl) ?_
  refine XM.setA (pre := []) (post := []) rfl (YM.of (Y.list (S.consA rfl Y.int Ys.nil) (by rw [sizeLine_eq]; exact Nat.le_of_ble_eq_true rfl))) (S.loc (kOf hs rfl) rfl rfl) ⟨rfl, rfl, rfl, rfl⟩ rfl (Nat.le_of_ble_eq_true rfl) ?_
  refine XM.setA (pre := []) (post := []) rfl (YM.of (Y.list (S.consA rfl (S.loc (kOf hs rfl) rfl rfl) Ys.nil) (by rw [sizeLine_eq]; exact Nat.le_of_ble_eq_true rfl))) (S.loc (kOf hs rfl) rfl rfl) ⟨rfl, rfl, rfl, rfl⟩ rfl (Nat.le_of_ble_eq_true rfl) ?_
  exact XM.nil (.inr ⟨rfl, rfl, dx, rfl⟩)
end
end Uni
namespace Uni
noncomputable def rlow (m : Rm) (first : Int) : Nat := cle m.st (first - 1)
noncomputable def rhigh (m : Rm) (last : Int) : Nat := cle m.st (last + 1)
noncomputable def rbeh (m : Rm) (last : Int) : D := m.va.getD (rhigh m last - 1) .none
noncomputable def rc1 (m : Rm) (last : Int) (v : D) : Bool := decide (last < 1114111) && !likeD (rbeh m last) v
noncomputable def rc2 (m : Rm) (first : Int) (v : D) : Bool := decide (0 < (rlow m first : Int)) && likeD (m.va.getD (rlow m first - 1) .none) v
noncomputable def rS (m : Rm) (first last : Int) (v : D) : List Int := let l := if rc1 m last v then [first, last + 1] else [first]; if rc2 m first v then l.drop 1 else l
noncomputable def rV (m : Rm) (first last : Int) (v : D) : List D := let l := if rc1 m last v then [v, rbeh m last] else [v]; if rc2 m first v then l.drop 1 else l
noncomputable def rput (m : Rm) (first last : Int) (v : D) : Rm := ⟨m.df, m.st.take (rlow m first) ++ rS m first last v ++ m.st.drop (rhigh m last), m.va.take (rlow m first) ++ rV m first last v ++ m.va.drop (rhigh m last)⟩
theorem interOf {env : Env} {sc : Scope} (hs : env.scope = sc) (e : (sc.kind == .module) = false) : interactive env = false := by
  show (env.scope.kind == _ && _) = false
  rw [hs, e]; rfl
theorem SameK.scal {a b : D} (h : SameK a b) : Scal a = true ∧ Scal b = true := by cases h <;> exact ⟨rfl, rfl⟩
section
variable {w : World} {n : Nat}
set_option maxHeartbeats 4000000
theorem rput_ok {m : Rm} (hm : RmOk m) {a dx : Addr} {first last : Int} {v : D} (h0 : 0 ≤ first) (hfl : first ≤ last) (hv : ∀ x ∈ m.va, SameK x v) (hz : m.st.length ≤ 900) :
    CallM w (n + 3) 232 [.own a, .int first, .int last, v] [(a, .inst 249 dx (rmF m))] (fun d os' => d = .none ∧ os' = [(a, .inst 249 dx (rmF (rput m first last v)))]) := by
  refine call_fnM (ps := ["self", "first", "last", "value"]) rfl rfl rfl (fun vs hl => ?_) (fun env hs => ?_)
  · obtain ⟨a, b, c, d, rfl⟩ := L4 hl; rfl
  have hsl : m.st.length ≤ sizeLine := by rw [sizeLine_eq]; apply Ar.sz9 <;> assumption
  have hlen := hm.len
  have hl1 := cle_le m.st (first - 1)
  have hl2 := cle_le m.st (last + 1)
  have hh1 : 1 ≤ rhigh m last := hm.one (c := last + 1) (by lia)
  have hlt : rhigh m last - 1 < m.va.length := by have : rhigh m last ≤ m.st.length := hl2; apply Ar.u4 <;> assumption
  have hbm : rbeh m last ∈ m.va := by
    unfold rbeh
    rw [List.getD_eq_getElem?_getD, List.getElem?_eq_getElem hlt]; exact List.getElem_mem hlt
  have hbk := hv _ hbm
  have hsc := hbk.scal
  refine XM.ifs (YBM.of (S.cmpB rfl (S.loc (kOf hs rfl) rfl rfl) (S.loc (kOf hs rfl) rfl rfl) CmpOK.gtI)) (fun h => ?_) (fun _ => XM.nil ?_)
  · have := of_decide_eq_true h; lia
  refine XM.assign (d := .int (rlow m first)) ?_ (.inl (kOf hs rfl)) rfl ?_
  · refine YM.borrow (fz := [(a, .inst 249 dx (rmF m))]) (more := []) (r' := rl [("self", .inst 249 (rmF m)), ("first", .int first)]) rfl (frzR_of ⟨⟨_, rfl, .inst (.head _) (Frze.refl _)⟩, ⟨_, rfl, .refl _⟩, trivial⟩) rfl ?_
    have e : (rlow m first : Int) = ((cle m.st (first - 1) : Int) - 1) + 1 := by unfold rlow; exact Ar.l4
    rw [e]
    exact (Y.bin (S.callN rfl (S.glob (kOf hs rfl) rfl rfl (Stat.fn rfl)) (S.consA rfl (S.attr rfl (S.loc (kOf hs rfl) rfl rfl) rfl ⟨rfl, rfl⟩ rfl) (S.consA rfl (Y.bin (S.loc (kOf hs rfl) rfl rfl) Y.int BinOK.subI) Ys.nil)) (ArgsOk.cons rfl) (S.fnC rfl (place_ok (n := n + 1) _ _ hm.srt hm.sm))) Y.int (by first | with_reducible exact BinOK.addI | ktr_rel))
  refine XM.assign (d := .int (rhigh m last)) ?_ (.inl (kOf hs rfl)) rfl ?_
  · refine YM.borrow (fz := [(a, .inst 249 dx (rmF m))]) (more := []) (r' := rl [("self", .inst 249 (rmF m)), ("last", .int last)]) rfl (frzR_of ⟨⟨_, rfl, .inst (.head _) (Frze.refl _)⟩, ⟨_, rfl, .refl _⟩, trivial⟩) rfl ?_
    have e : (rhigh m last : Int) = ((cle m.st (last + 1) : Int) - 1) + 1 := by unfold rhigh; exact Ar.l4
    rw [e]
    exact (Y.bin (S.callN rfl (S.glob (kOf hs rfl) rfl rfl (Stat.fn rfl)) (S.consA rfl (S.attr rfl (S.loc (kOf hs rfl) rfl rfl) rfl ⟨rfl, rfl⟩ rfl) (S.consA rfl (Y.bin (S.loc (kOf hs rfl) rfl rfl) Y.int (by first | with_reducible exact BinOK.addI | ktr_rel)) Ys.nil)) (ArgsOk.cons rfl) (S.fnC rfl (place_ok (n := n + 1) _ _ hm.srt hm.sm))) Y.int (by first | with_reducible exact BinOK.addI | ktr_rel))
  refine XM.assign (d := rbeh m last) ?_ (.inl (kOf hs rfl)) rfl ?_
  · refine YM.borrow (fz := [(a, .inst 249 dx (rmF m))]) (more := []) (r' := rl [("self", .inst 249 (rmF m)), ("high", .int (rhigh m last))]) rfl (frzR_of ⟨⟨_, rfl, .inst (.head _) (Frze.refl _)⟩, ⟨_, rfl, .refl _⟩, trivial⟩) hsc.1 ?_
    have hit : 0 ≤ (rhigh m last : Int) - 1 ∧ (rhigh m last : Int) - 1 < 2 ^ 63 ∧ m.va[((rhigh m last : Int) - 1).toNat]? = some (rbeh m last) := by
      refine ⟨by apply Ar.j7 <;> assumption, by rw [sizeLine_eq] at hsl; apply Ar.y8 <;> assumption, ?_⟩
      rw [show ((rhigh m last : Int) - 1).toNat = rhigh m last - 1 from Ar.tnS _, List.getElem?_eq_getElem hlt]
      unfold rbeh
      rw [List.getD_eq_getElem?_getD, List.getElem?_eq_getElem hlt]; rfl
    exact (S.item (S.attr rfl (S.loc (kOf hs rfl) rfl rfl) rfl ⟨rfl, rfl⟩ rfl) (Y.bin (S.loc (kOf hs rfl) rfl rfl) Y.int BinOK.subI) (ItemIs.lst hit) (fun _ _ => rfl))
  refine XM.tupSwE (xs := ["starts", "values"]) rfl (swOf hs rfl) (kAll hs rfl) (EM.tuple (P1 := fun ds os1 => ∃ sa va, ds = [.own sa, .own va] ∧ os1 = [(va, .lst [v]), (sa, .lst [.int first]), (a, .inst 249 dx (rmF m))])
    (EMs.cons (P0 := fun d os1 => ∃ sa, d = .own sa ∧ os1 = [(sa, .lst [.int first]), (a, .inst 249 dx (rmF m))]) rfl (EM.listO (P1 := fun ds os1 => ds = [.int first] ∧ os1 = [(a, .inst 249 dx (rmF m))]) (EMs.ofYs (S.consA rfl (S.loc (kOf hs rfl) rfl rfl) Ys.nil) ⟨rfl, rfl⟩) (fun ds os1 sa ⟨e1, e2⟩ => ?_)) (fun d os1 ⟨sa, e1, e2⟩ => ?_)) (fun ds os1 hZ => ?_))
  · subst e1; subst e2
    exact ⟨by rw [sizeLine_eq]; exact Nat.le_of_ble_eq_true rfl, sa, rfl, rfl⟩
  · subst e1; subst e2
    refine EMs.cons (P0 := fun d os1 => ∃ va, d = .own va ∧ os1 = [(va, .lst [v]), (sa, .lst [.int first]), (a, .inst 249 dx (rmF m))]) rfl (EM.listO (P1 := fun ds os1 => ds = [v] ∧ os1 = [(sa, .lst [.int first]), (a, .inst 249 dx (rmF m))]) (EMs.ofYs (S.consA rfl (S.loc (kOf hs rfl) rfl rfl) Ys.nil) ⟨rfl, rfl⟩) (fun ds os1 va hZ => ?_)) (fun d os1 ⟨va, e1, e2⟩ => EMs.nil ⟨sa, va, by rw [e1], e2⟩)
    obtain ⟨e1, e2⟩ := hZ
    subst e1; subst e2
    exact ⟨by rw [sizeLine_eq]; exact Nat.le_of_ble_eq_true rfl, va, rfl, rfl⟩
  obtain ⟨sa, va, e1, e2⟩ := hZ
  subst e1; subst e2
  refine ⟨by rw [sizeLine_eq]; exact Nat.le_of_ble_eq_true rfl, _, rfl, rfl, ?_⟩
  refine XM.ifsJ (b := rc1 m last v) (fun r' os' => RLe (rl [("self", .own a), ("first", .int first), ("last", .int last), ("value", v), ("low", .int (rlow m first)), ("high", .int (rhigh m last)), ("starts", .own sa), ("values", .own va)]) r' ∧
    os' = [(va, .lst (if rc1 m last v then [v, rbeh m last] else [v])), (sa, .lst ((if rc1 m last v then [first, last + 1] else [first]).map .int)), (a, .inst 249 dx (rmF m))]) (YBM.of (YB.boolop (YB.and_cons (S.cmpB rfl (S.loc (kOf hs rfl) rfl rfl) (S.glob (kOf hs rfl) rfl rfl Stat.int) CmpOK.ltI) (fun hq => (YB.and_one (YB.not (S.ofB rfl (S.callN rfl (S.glob (kOf hs rfl) rfl rfl (Stat.fn rfl)) (S.consA rfl (S.loc (kOf hs rfl) rfl rfl) (S.consA rfl (S.loc (kOf hs rfl) rfl rfl) Ys.nil)) (ArgsOk.cons rfl) (S.fnC rfl (like_ok (n := n + 1) hbk)))))))))) (fun h => ?_) (fun h => XM.nil ⟨?_, ?_⟩) (fun r' os' hZ => ?_)
  · refine XM.exprE (interOf hs rfl) rfl (EM.append (l0 := [.int first]) rfl rfl ⟨_, rfl⟩ (YM.of (S.loc (kOf hs rfl) rfl rfl)) (.tail _ (.head _)) (EM.ofY (P0 := fun d os1 => d = .int (last + 1) ∧ os1 = [(va, .lst [v]), (sa, .lst [.int first]), (a, .inst 249 dx (rmF m))]) (Y.bin (S.loc (kOf hs rfl) rfl rfl) Y.int (by first | with_reducible exact BinOK.addI | ktr_rel)) ⟨rfl, rfl⟩) (P0 := fun d os1 => os1 = [(va, .lst [v]), (sa, .lst [.int first, .int (last + 1)]), (a, .inst 249 dx (rmF m))]) (fun d os1 ⟨e1, e2⟩ => ⟨[(va, .lst [v])], _, _, e2, Nat.le_of_ble_eq_true rfl, by rw [e1]; rfl⟩)) (fun d os1 e => ?_)
    subst e
    refine XM.exprE (interOf hs rfl) rfl (EM.append (l0 := [v]) rfl rfl ⟨_, rfl⟩ (YM.of (S.loc (kOf hs rfl) rfl rfl)) (.head _) (EM.ofY (P0 := fun d os1 => d = rbeh m last ∧ os1 = [(va, .lst [v]), (sa, .lst [.int first, .int (last + 1)]), (a, .inst 249 dx (rmF m))]) (S.loc (kOf hs rfl) rfl rfl) ⟨rfl, rfl⟩) (P0 := fun d os1 => os1 = [(va, .lst [v, rbeh m last]), (sa, .lst [.int first, .int (last + 1)]), (a, .inst 249 dx (rmF m))]) (fun d os1 ⟨e1, e2⟩ => ⟨[], _, _, e2, Nat.le_of_ble_eq_true rfl, by rw [e1]; rfl⟩)) (fun d os1 e => ?_)
    subst e
    refine XM.nil ⟨?_, ?_⟩
    · exact rle_of ⟨rfl, rfl, rfl, rfl, rfl, rfl, rfl, rfl, trivial⟩
    · rw [if_pos h, if_pos h]; rfl
  · exact rle_of ⟨rfl, rfl, rfl, rfl, rfl, rfl, rfl, rfl, trivial⟩
  · rw [if_neg (ne_true_of_eq_false h), if_neg (ne_true_of_eq_false h)]; rfl
  obtain ⟨hr, ho⟩ := hZ
  subst ho
  refine XM.weak hr ?_
  generalize hS0 : (if rc1 m last v then [first, last + 1] else [first]) = S0
  generalize hV0 : (if rc1 m last v then [v, rbeh m last] else [v]) = V0
  have hS0l : S0.length ≤ 2 := by rw [← hS0]; split <;> exact Nat.le_of_ble_eq_true rfl
  have hV0l : V0.length ≤ 2 := by rw [← hV0]; split <;> exact Nat.le_of_ble_eq_true rfl
  have hV0s : V0.all Scal = true := by rw [← hV0]; split <;> simp [hsc.1, hsc.2]
  have hrS : rS m first last v = if rc2 m first v then S0.drop 1 else S0 := by rw [← hS0]; rfl
  have hrV : rV m first last v = if rc2 m first v then V0.drop 1 else V0 := by rw [← hV0]; rfl
  refine XM.freeze (fz := [(va, .lst V0), (sa, .lst (S0.map .int))]) (more := [(a, .inst 249 dx (rmF m))])
    (r' := rl [("self", .own a), ("first", .int first), ("last", .int last), ("value", v), ("low", .int (rlow m first)), ("high", .int (rhigh m last)), ("starts", .lst (S0.map .int)), ("values", .lst V0)]) rfl
    (frzR_of ⟨⟨_, rfl, .refl _⟩, ⟨_, rfl, .refl _⟩, ⟨_, rfl, .refl _⟩, ⟨_, rfl, .refl _⟩, ⟨_, rfl, .refl _⟩, ⟨_, rfl, .refl _⟩, ⟨_, rfl, .lst (.tail _ (.head _)) (Frzs.refl _)⟩, ⟨_, rfl, .lst (.head _) (Frzs.refl _)⟩, trivial⟩) ?_
  have hS0s : S0.length ≤ sizeLine := by rw [sizeLine_eq]; apply Ar.j1 <;> assumption
  have hV0z : V0.length ≤ sizeLine := by rw [sizeLine_eq]; apply Ar.j1 <;> assumption
  refine XM.ifsJ (b := rc2 m first v) (fun r' os' => RLe (rl [("self", .own a), ("low", .int (rlow m first)), ("high", .int (rhigh m last)), ("starts", .lst ((rS m first last v).map .int)), ("values", .lst (rV m first last v))]) r' ∧ os' = [(a, .inst 249 dx (rmF m))])
    (YBM.borrow (fz := [(a, .inst 249 dx (rmF m))]) (more := []) (r' := rl [("self", .inst 249 (rmF m)), ("low", .int (rlow m first)), ("value", v)]) rfl (frzR_of ⟨⟨_, rfl, .inst (.head _) (Frze.refl _)⟩, ⟨_, rfl, .refl _⟩, ⟨_, rfl, .refl _⟩, trivial⟩) ?_) (fun h => ?_) (fun h => XM.nil ⟨?_, rfl⟩) (fun r' os' hZ => ?_)
  · unfold rc2
    refine YB.boolop (YB.and_cons (S.cmpB rfl (S.loc (kOf hs rfl) rfl rfl) Y.int CmpOK.gtI) (fun hq => ?_))
    have hq := of_decide_eq_true hq
    have hlm : rlow m first - 1 < m.va.length := by have : rlow m first ≤ m.st.length := hl1; apply Ar.u5 <;> assumption
    have hbk : SameK (m.va.getD (rlow m first - 1) .none) v := hv _ (by rw [List.getD_eq_getElem?_getD, List.getElem?_eq_getElem hlm]; exact List.getElem_mem hlm)
    have hit : 0 ≤ (rlow m first : Int) - 1 ∧ (rlow m first : Int) - 1 < 2 ^ 63 ∧ m.va[((rlow m first : Int) - 1).toNat]? = some (m.va.getD (rlow m first - 1) .none) := by
      refine ⟨by apply Ar.ai <;> assumption, by rw [sizeLine_eq] at hsl; apply Ar.y8 <;> assumption, ?_⟩
      rw [show ((rlow m first : Int) - 1).toNat = rlow m first - 1 from Ar.tnS _, List.getElem?_eq_getElem hlm]
      rw [List.getD_eq_getElem?_getD, List.getElem?_eq_getElem hlm]; rfl
    exact YB.and_one (S.ofB rfl (S.callN rfl (S.glob (kOf hs rfl) rfl rfl (Stat.fn rfl)) (S.consA rfl (S.item (S.attr rfl (S.loc (kOf hs rfl) rfl rfl) rfl ⟨rfl, rfl⟩ rfl) (Y.bin (S.loc (kOf hs rfl) rfl rfl) Y.int BinOK.subI) (ItemIs.lst hit) (fun _ _ => rfl)) (S.consA rfl (S.loc (kOf hs rfl) rfl rfl) Ys.nil)) (ArgsOk.cons rfl) (S.fnC rfl (like_ok (n := n + 1) hbk))))
  · refine XM.tupSwE (xs := ["starts", "values"]) rfl (swOf hs rfl) (kAll hs rfl) (EM.ofY (d := .tup [.lst ((S0.drop 1).map .int), .lst (V0.drop 1)]) (Y.tuple (S.consA rfl (S.fromM (k := 1) (S.loc (kOf hs rfl) rfl rfl) Y.int ⟨by decide, hS0s⟩) (S.consA rfl (Y.sliceFrom (k := 1) (S.loc (kOf hs rfl) rfl rfl) Y.int hV0z) Ys.nil)) (by rw [sizeLine_eq]; exact Nat.le_of_ble_eq_true rfl)) ⟨_, rfl, rfl, XM.nil ⟨?_, rfl⟩⟩)
    rw [hrS, hrV, if_pos h, if_pos h]
    exact rle_of ⟨rfl, rfl, rfl, rfl, rfl, trivial⟩
  · rw [hrS, hrV, if_neg (ne_true_of_eq_false h), if_neg (ne_true_of_eq_false h)]
    exact rle_of ⟨rfl, rfl, rfl, rfl, rfl, trivial⟩
  obtain ⟨hr, ho⟩ := hZ
  subst ho
  refine XM.weak hr ?_
  have hrSl : (rS m first last v).length ≤ 2 := by rw [hrS]; split <;> (try rw [List.length_drop]) <;> (first | (apply Ar.predE <;> assumption) | lia)
  have hrVl : (rV m first last v).length ≤ 2 := by rw [hrV]; split <;> (try rw [List.length_drop]) <;> (first | (apply Ar.predE <;> assumption) | lia)
  have hrVs : (rV m first last v).all Scal = true := by
    rw [hrV]; split
    · rw [List.all_eq_true] at hV0s ⊢
      exact fun x hx => hV0s x (List.mem_of_mem_drop hx)
    · exact hV0s
  have hvas : m.va.all Scal = true := List.all_eq_true.mpr fun x hx => (hv x hx).scal.1
  rw [sizeLine_eq] at hsl
  refine XM.setA (pre := []) (post := []) rfl (YM.borrowL (l := (rput m first last v).st.map .int) (fz := [(a, .inst 249 dx (rmF m))]) (more := []) (r' := rl [("self", .inst 249 (rmF m)), ("low", .int (rlow m first)), ("high", .int (rhigh m last)), ("starts", .lst ((rS m first last v).map .int))]) rfl (frzR_of ⟨⟨_, rfl, .inst (.head _) (Frze.refl _)⟩, ⟨_, rfl, .refl _⟩, ⟨_, rfl, .refl _⟩, ⟨_, rfl, .refl _⟩, trivial⟩) rfl ?_ ?_) (S.loc (kOf hs rfl) rfl rfl) ⟨rfl, rfl, rfl, rfl⟩ rfl (Nat.le_of_ble_eq_true rfl) ?_
  · simp [List.all_eq_true, Scal]
  · unfold rput
    refine Y.bin (Y.bin (S.toM (k := rlow m first) (S.attr rfl (S.loc (kOf hs rfl) rfl rfl) rfl ⟨rfl, rfl⟩ rfl) (S.loc (kOf hs rfl) rfl rfl) ⟨by exact Int.natCast_nonneg _, by rw [sizeLine_eq]; assumption⟩) (S.loc (kOf hs rfl) rfl rfl) (BinOK.addM ?_)) (S.fromM (k := rhigh m last) (S.attr rfl (S.loc (kOf hs rfl) rfl rfl) rfl ⟨rfl, rfl⟩ rfl) (S.loc (kOf hs rfl) rfl rfl) ⟨by exact Int.natCast_nonneg _, by rw [sizeLine_eq]; assumption⟩) (BinOK.addM ?_)
    · rw [sizeLine_eq, List.length_take]; apply Ar.m6 <;> assumption
    · rw [sizeLine_eq, List.length_append, List.length_take, List.length_drop]; apply Ar.m3 <;> assumption
  refine XM.setA (pre := []) (post := []) rfl (YM.borrowL (l := (rput m first last v).va) (fz := [(a, .inst 249 dx [("default", m.df), ("starts", .lst ((rput m first last v).st.map .int)), ("values", .lst m.va)])]) (more := []) (r' := rl [("self", .inst 249 [("default", m.df), ("starts", .lst ((rput m first last v).st.map .int)), ("values", .lst m.va)]), ("low", .int (rlow m first)), ("high", .int (rhigh m last)), ("values", .lst (rV m first last v))]) rfl (frzR_of ⟨⟨_, rfl, .inst (.head _) (Frze.refl _)⟩, ⟨_, rfl, .refl _⟩, ⟨_, rfl, .refl _⟩, ⟨_, rfl, .refl _⟩, trivial⟩) rfl ?_ ?_) (S.loc (kOf hs rfl) rfl rfl) ⟨rfl, rfl, rfl, rfl⟩ rfl (Nat.le_of_ble_eq_true rfl) ?_
  · rw [List.all_eq_true] at hvas hrVs ⊢
    unfold rput
    intro x hx
    simp only [List.mem_append] at hx
    rcases hx with (hx | hx) | hx
    · exact hvas x (List.mem_of_mem_take hx)
    · exact hrVs x hx
    · exact hvas x (List.mem_of_mem_drop hx)
  · unfold rput
    refine Y.bin (Y.bin (Y.sliceTo (k := rlow m first) (S.attr rfl (S.loc (kOf hs rfl) rfl rfl) rfl ⟨rfl, rfl⟩ rfl) (S.loc (kOf hs rfl) rfl rfl) (by rw [sizeLine_eq]; lia)) (S.loc (kOf hs rfl) rfl rfl) (BinOK.addL ?_)) (Y.sliceFrom (k := rhigh m last) (S.attr rfl (S.loc (kOf hs rfl) rfl rfl) rfl ⟨rfl, rfl⟩ rfl) (S.loc (kOf hs rfl) rfl rfl) (by rw [sizeLine_eq]; lia)) (BinOK.addL ?_)
    · rw [sizeLine_eq, List.length_take]; apply Ar.m6e <;> assumption
    · rw [sizeLine_eq, List.length_append, List.length_take, List.length_drop]; apply Ar.m3e <;> assumption
  exact XM.nil (.inr ⟨rfl, rfl, rfl⟩)
end
end Uni
namespace Uni
theorem fput_names (x : Str) (d : D) : ∀ fs : List (Str × D), (fput x d fs).map (·.1) = if x ∈ fs.map (·.1) then fs.map (·.1) else fs.map (·.1) ++ [x]
  | [] => by simp [fput]
  | p :: ps => by
    unfold fput
    by_cases c : x = p.1
    · subst c; simp
    · have c' : ¬ (x == p.1) = true := by simpa using c
      rw [if_neg c', List.map_cons, fput_names x d ps]
      by_cases q : x ∈ ps.map (·.1)
      · rw [if_pos q, if_pos (by simp only [List.map_cons, List.mem_cons]; exact .inr q)]; rfl
      · rw [if_neg q, if_neg (by simp only [List.map_cons, List.mem_cons, not_or]; exact ⟨c, q⟩)]; rfl
theorem fput_nodup {x : Str} {d : D} {fs : List (Str × D)} (h : (fs.map (·.1)).Nodup) : ((fput x d fs).map (·.1)).Nodup := by
  rw [fput_names]
  split
  · exact h
  · rename_i c
    rw [List.nodup_append]
    refine ⟨h, by simp, fun a ha b hb e => ?_⟩
    rw [List.mem_singleton] at hb
    subst e; subst hb
    exact c ha
noncomputable def dPut (names : List Str) (d : D) (es : List (Str × D)) : List (Str × D) := names.foldl (fun es x => fput x d es) es
theorem dPut_nodup {d : D} : ∀ {names : List Str} {es : List (Str × D)}, (es.map (·.1)).Nodup → ((dPut names d es).map (·.1)).Nodup
  | [], _, h => h
  | x :: names, es, h => dPut_nodup (names := names) (fput_nodup h)
theorem dPut_len {d : D} : ∀ {names : List Str} {es : List (Str × D)}, (dPut names d es).length ≤ es.length + names.length
  | [], _ => Nat.le_refl _
  | x :: names, es => by
    have h1 := dPut_len (d := d) (names := names) (es := fput x d es)
    have h2 := fput_len x d es
    show (dPut names d (fput x d es)).length ≤ _
    rw [List.length_cons]; lia
theorem dPut_take {names : List Str} {d : D} {es : List (Str × D)} {i : Nat} (h : i < names.length) : dPut (names.take (i + 1)) d es = fput (names[i]) d (dPut (names.take i) d es) := by
  unfold dPut
  rw [List.take_succ_eq_append_getElem h, List.foldl_append]; rfl
section
variable {w : World} {n : Nat} {env : Env} {r : Rho}
theorem put_loop {P : Fl → Rho → Os → Prop} {rest : List Stmt} {a : Addr} {p p1 p2 p3 pos pos2 : Pos} {V : Expr} {elts : List Expr} {kk : Nat} {p4 : Pos} {names : List Str} {vD : D} {es : List (Str × D)} (hn : env.kindOf "name" = some .local) (hf : env.kindOf "found" = some .local)
    (hfold : ∀ x, foldedSetIterable (.Tuple elts kk p4) env x = pure x) (he : StrsE elts names) (hV : ∀ r1, Y w n env r1 (eval V env) vD)
    (hsw : swapsWith V (some (.Subscript (.Name "found" p1) (.Name "name" p2) p3)) pos2.line env = pure false) (hr : r "found" = some (.own a)) (nd : (es.map (·.1)).Nodup) (hz : es.length + names.length ≤ 900)
    (hend : ∀ r', r' "found" = some (.own a) → XM w n env r' [(a, .dct (dPut names vD es))] (execs rest env) P) :
    XM w n env r [(a, .dct es)] (execs (.For (.Name "name" p) (.Tuple elts kk p4) [.Assign [.Subscript (.Name "found" p1) (.Name "name" p2) p3] V pos2] [] pos :: rest) env) P := by
  refine XM.forT (fun i r1 os1 => r1 "found" = some (.own a) ∧ os1 = [(a, .dct (dPut (names.take i) vD es))]) (.inl hn) hfold (Y.tuple (Ys.strs he) (by rw [List.length_map, sizeLine_eq]; lia)) ⟨hr, rfl⟩ (fun i r1 os1 hi ⟨h1, h2⟩ => ?_) (fun r' os' hZ => ?_)
  · subst h2
    have hi' : i < names.length := by simpa using hi
    have hl := dPut_len (d := vD) (names := names.take i) (es := es)
    rw [List.length_take] at hl
    have e : (names.map D.str).getD i .none = .str names[i] := by
      rw [List.getD_eq_getElem?_getD, List.getElem?_map, List.getElem?_eq_getElem hi']; rfl
    rw [e]
    refine XM.setI hsw (EM.ofY (hV _) (StoreAt.mk (pre := []) (post := []) (YM.of (Y.loc (d := .own a) ?_ hf rfl)) (YM.of (Y.loc (d := .str names[i]) ?_ hn rfl)) (dPut_nodup nd) (by lia) (XM.nil ⟨?_, ?_⟩)))
    · show rset r1 "name" _ "found" = _
      unfold rset; rw [if_neg (by decide)]; exact h1
    · show rset r1 "name" _ "name" = _
      unfold rset; rw [if_pos rfl]
    · show rset r1 "name" _ "found" = _
      unfold rset; rw [if_neg (by decide)]; exact h1
    · rw [dPut_take hi']; rfl
  · obtain ⟨h1, h2⟩ := hZ
    subst h2
    rw [List.length_map, List.take_length]
    exact hend r' h1
end
noncomputable def dn0 : List Str := ["gc", "ccc", "bc", "lb", "ea", "sc", "jt", "incb"]
noncomputable def dv0 : List D := [.str "Cn", .int 0, .str "L", .str "XX", .str "N", .str "Zzzz", .str "U", .str "None"]
noncomputable def dn1 : List Str := ["gcb", "wb", "sb"]
noncomputable def dn2 : List Str := ["ex", "sd", "cased", "ci", "ep", "di", "ids", "idc", "xids", "xidc", "pat_syn", "pat_ws", "idst"]
noncomputable def dn3 : List Str := ["dm", "uc", "lc", "tc", "cf", "bm", "bpb", "scx", "nt", "nv", "name", "conf", "nfkc_cf"]
noncomputable def dn4 : List Str := ["suc", "slc", "stc", "alias"]
noncomputable def defsD : List (Str × D) := fput "idna" (.tup [.str "disallowed", .tup []]) (dPut dn4 (.tup []) (dPut dn3 .none (dPut dn2 (.bool false) (dPut dn1 (.str "Other") (dn0.zip dv0)))))
section
variable {w : World} {n : Nat}
set_option maxHeartbeats 4000000
theorem ddef_ok : CallOK w (n + 1) 260 [] (.dct defsD) := by
  refine CallM.frz (d' := .dct defsD) ?_
  refine call_fnM (ps := []) rfl rfl rfl (fun vs hl => ?_) (fun env hs => ?_)
  · match vs, hl with
    | [], _ => rfl
  have n0 : ((dn0.zip dv0).map (·.1)).Nodup := by decide
  have n1 := dPut_nodup (names := dn1) (d := .str "Other") n0
  have n2 := dPut_nodup (names := dn2) (d := .bool false) n1
  have n3 := dPut_nodup (names := dn3) (d := .none) n2
  have n4 := dPut_nodup (names := dn4) (d := .tup []) n3
  have l1 := dPut_len (names := dn1) (d := .str "Other") (es := dn0.zip dv0)
  have l2 := dPut_len (names := dn2) (d := .bool false) (es := dPut dn1 (.str "Other") (dn0.zip dv0))
  have l3 := dPut_len (names := dn3) (d := .none) (es := dPut dn2 (.bool false) (dPut dn1 (.str "Other") (dn0.zip dv0)))
  have l4 := dPut_len (names := dn4) (d := .tup []) (es := dPut dn3 .none (dPut dn2 (.bool false) (dPut dn1 (.str "Other") (dn0.zip dv0))))
  have z0 : (dn0.zip dv0).length = 8 := rfl
  have z1 : dn1.length = 3 := rfl
  have z2 : dn2.length = 13 := rfl
  have z3 : dn3.length = 13 := rfl
  have z4 : dn4.length = 4 := rfl
  with_reducible refine XM.assignE (P0 := fun d os1 => ∃ a, d = .own a ∧ os1 = [(a, .dct (dn0.zip dv0))]) ?_ ?_ ?_ (fun d os1 hZ => ?_)
  · with_reducible refine EM.dict (xs := dn0) (ds := dv0) ?_ ?_ ?_ ?_ (fun a => ⟨a, ?_, ?_⟩)
    · exact .cons Y.str (.cons Y.int (.cons Y.str (.cons Y.str (.cons Y.str (.cons Y.str (.cons Y.str (.cons Y.str .nil)))))))
    · intro h; cases h
    · exact Nat.le_of_ble_eq_true rfl
    · decide
    · rfl
    · rfl
  · exact .inl (kOf hs rfl)
  · rfl
  obtain ⟨a, e1, e2⟩ := hZ
  subst e1; subst e2
  with_reducible refine put_loop (names := dn1) (vD := .str "Other") ?_ ?_ ?_ ?_ ?_ ?_ ?_ n0 ?_ (fun r1 h1 => ?_)
  · exact kOf hs rfl
  · exact kOf hs rfl
  · exact fun _ => rfl
  · repeat constructor
  · exact fun _ => Y.str
  · rfl
  · rfl
  · lia
  with_reducible refine put_loop (names := dn2) (vD := .bool false) ?_ ?_ ?_ ?_ ?_ ?_ h1 n1 ?_ (fun r1 h1 => ?_)
  · exact kOf hs rfl
  · exact kOf hs rfl
  · exact fun _ => rfl
  · repeat constructor
  · exact fun _ => Y.bool
  · rfl
  · lia
  with_reducible refine put_loop (names := dn3) (vD := .none) ?_ ?_ ?_ ?_ ?_ ?_ h1 n2 ?_ (fun r1 h1 => ?_)
  · exact kOf hs rfl
  · exact kOf hs rfl
  · exact fun _ => rfl
  · repeat constructor
  · exact fun _ => Y.none
  · rfl
  · lia
  with_reducible refine put_loop (names := dn4) (vD := .tup []) ?_ ?_ ?_ ?_ ?_ ?_ h1 n3 ?_ (fun r1 h1 => ?_)
  · exact kOf hs rfl
  · exact kOf hs rfl
  · exact fun _ => rfl
  · repeat constructor
  · exact fun _ => Y.tuple Ys.nil (by rw [sizeLine_eq]; exact Nat.le_of_ble_eq_true rfl)
  · rfl
  · lia
  with_reducible refine XM.setI ?_ (EM.ofY (d := .tup [.str "disallowed", .tup []]) ?_ (StoreAt.mk (pre := []) (post := []) (YM.of (S.loc ?_ h1 ?_)) (YM.of Y.str) n4 ?_ ?_))
  · rfl
  · exact (Y.tuple (S.consA rfl Y.str (S.consA rfl (Y.tuple Ys.nil (by rw [sizeLine_eq]; exact Nat.le_of_ble_eq_true rfl)) Ys.nil)) (by rw [sizeLine_eq]; exact Nat.le_of_ble_eq_true rfl))
  · exact kOf hs rfl
  · rfl
  · lia
  with_reducible refine XM.ret (d := .own a) (YM.of (S.loc ?_ h1 ?_)) ?_
  · exact kOf hs rfl
  · rfl
  · exact .inl ⟨_, rfl, Frz.dct (os := [(a, .dct defsD)]) (.head _) (Frze.refl _)⟩
noncomputable abbrev dtF (df ma : D) : List (Str × D) := [("defaults", df), ("maps", ma), ("properties", .any), ("words", .any)]
theorem dnew_ok : CallM w (n + 3) 298 [] [] (fun o os' => ∃ x, o = .own x ∧ ∃ dx ma, os' = [(ma, .dct []), (x, .inst 298 dx (dtF (.dct defsD) (.own ma)))]) := by
  refine mkM (f := 274) rfl rfl rfl fun x dx => ?_
  refine call_fnM (ps := ["self"]) rfl rfl rfl (fun vs hl => ?_) (fun env hs => ?_)
  · obtain ⟨a, rfl⟩ := L1 hl; rfl
  refine XM.setA (pre := []) (post := []) rfl (YM.of (S.callN rfl (S.glob (kOf hs rfl) rfl rfl (Stat.fn rfl)) Ys.nil ArgsOk.nil (S.fnC rfl (ddef_ok (n := n))))) (S.loc (kOf hs rfl) rfl rfl) ⟨rfl, rfl, rfl, rfl⟩ rfl (Nat.le_of_ble_eq_true rfl) ?_
  refine XM.setE rfl (EM.dictN (fun ma => PutAt.mk (pre := [(ma, .dct [])]) (post := []) (S.loc (kOf hs rfl) rfl rfl) ⟨rfl, rfl, rfl, rfl⟩ (Nat.le_of_ble_eq_true rfl) ?_))
  refine XM.setA (pre := [(ma, .dct [])]) (post := []) rfl (YM.of Y.dictAny) (S.loc (kOf hs rfl) rfl rfl) ⟨rfl, rfl, rfl, rfl⟩ rfl (Nat.le_of_ble_eq_true rfl) ?_
  refine XM.setA (pre := [(ma, .dct [])]) (post := []) rfl (YM.of Y.dictAny) (S.loc (kOf hs rfl) rfl rfl) ⟨rfl, rfl, rfl, rfl⟩ rfl (Nat.le_of_ble_eq_true rfl) ?_
  exact XM.nil (.inr ⟨rfl, rfl, dx, ma, rfl⟩)
end
end Uni
namespace Uni
section
variable {w : World} {n : Nat} {env : Env} {r : Rho} {os : Os} {P : Fl → Rho → Os → Prop} {rest : List Stmt}
theorem biInt : BiOk w "int" (.type "int") := ⟨by kernel_rfl, by kernel_rfl, by decide, rfl⟩
theorem S.intOf {p pos : Pos} {e : Expr} {i : Int} (hx : env.kindOf "int" = some .globalImplicit) (he : starEach [e] env = (false, eval e env) :: starEach [] env) (hpl : (backTo pos (starEach [e] env)).any (·.1) = false) (hv : Y w n env r (eval e env) (.int i)) :
    Y w n env r (eval (.Call (.Name "int" p) [e] [] pos) env) (.int i) := fun A s Z ao F => by
  refine wpAny_Call_Name_kw (bi_name F hx (biInt (w := w)).e (biInt (w := w)).hv (biInt (w := w)).hn (biInt (w := w)).hd (PySem.callWith_type hpl (args_plain (S.consA he hv Ys.nil) ao F he fun vs s' k rds => ?_)))
  obtain ⟨v, rfl, t, rfl⟩ := rds.one_of
  exact call_int_int ⟨k, t, rfl⟩
theorem FIm.asideL {Zo Z : List Addr} {hb h : Heap} {lf : Addr} {l : List D} (F : FIm w env Zo Z hb r ((lf, .lst l) :: os) h) : FIm w env Zo (lf :: Z) hb r os h where
  fi := F.fi.eqv fun b => by
    show b ∈ places os ++ lf :: Z ↔ b ∈ (lf :: places os) ++ Z
    simp only [List.mem_append, List.mem_cons]; grind
  ow := fun p hp => (F.ow p (.tail _ hp)).less fun b hb => by
    show b ∈ Zo ++ ((lf :: places os) ++ Z)
    simp only [List.mem_append, List.mem_cons] at hb ⊢; grind
  nd := (List.nodup_cons.mp (show (lf :: places os).Nodup from F.nd)).2
  dj := fun b hb => ⟨(F.dj b (.tail _ hb)).1, fun q => by
    rcases List.mem_cons.mp q with rfl | q
    · exact (List.nodup_cons.mp (show (b :: places os).Nodup from F.nd)).1 hb
    · exact (F.dj b (.tail _ hb)).2.1 q, (F.dj b (.tail _ hb)).2.2⟩
theorem FIm.backL {Zo Z : List Addr} {hb : Heap} {s s' : Shared} {r' : Rho} {os' : Os} {lf : Addr} {l : List D} (hl : l.all Scal = true) (F : FIm w env Zo Z hb r ((lf, .lst l) :: os) s.heap) (F' : FIm w env Zo (lf :: Z) hb r' os' s'.heap) (sm : SameM Zo os os' s s') :
    FIm w env Zo Z hb r' ((lf, .lst l) :: os') s'.heap ∧ SameM Zo ((lf, .lst l) :: os) ((lf, .lst l) :: os') s s' := by
  have hn := (List.nodup_cons.mp (show (lf :: places os).Nodup from F.nd)).1
  have hlf := F.dj lf (List.mem_cons_self)
  have hn' : lf ∉ places os' := fun q => (F'.dj lf q).2.1 (.head _)
  obtain ⟨vs, m, e1, e2⟩ := F.ow _ (.head _)
  have e3 := sm.k lf _ hlf.1 hn e1
  refine ⟨⟨F'.fi.eqv fun b => ?_, fun p hp => ?_, ?_, fun b hb => ?_⟩, sm.eq, fun b o h1 h2 e => sm.k b o h1 (fun q => h2 (.tail _ q)) e, fun b hb => ?_, sm.lv⟩
  · show b ∈ (lf :: places os') ++ Z ↔ b ∈ places os' ++ lf :: Z
    simp only [List.mem_append, List.mem_cons]; grind
  · rcases List.mem_cons.mp hp with rfl | hp
    · exact ⟨vs, m, e3, Scal.rds hl e2⟩
    · refine (F'.ow p hp).less fun b hb => ?_
      have hb : b ∈ Zo ++ ((lf :: places os') ++ Z) := hb
      simp only [List.mem_append, List.mem_cons] at hb ⊢; grind
  · exact List.nodup_cons.mpr ⟨hn', F'.nd⟩
  · rcases List.mem_cons.mp (show b ∈ lf :: places os' from hb) with rfl | hb
    · exact hlf
    · exact ⟨(F'.dj b hb).1, fun q => (F'.dj b hb).2.1 (.tail _ q), (F'.dj b hb).2.2⟩
  · rcases List.mem_cons.mp (show b ∈ lf :: places os' from hb) with rfl | hb
    · exact .inl (.head _)
    · exact (sm.fr b hb).imp (.tail _) id
theorem FIm.keepZ {Zo Z : List Addr} {hb h : Heap} (F : FIm w env Zo Z hb r os h) {b : Addr} (hz : b ∈ Zo ++ (places os ++ Z)) : ∃ o, h.get? b = some o := (F.fi.e.z b hz).2
theorem XM.forO {x : Str} {p pos : Pos} {iter : Expr} {body : List Stmt} {lf : Addr} {l : List D} (Inv : Nat → Rho → Os → Prop) (hx : KindOk env x) (hfold : ∀ x, foldedSetIterable iter env x = pure x) (hv : YM w n env r ((lf, .lst l) :: os) (eval iter env) (.own lf)) (hl : l.all Scal = true)
    (h0 : Inv 0 r os) (turn : ∀ i r1 os1, i < l.length → Inv i r1 os1 → XM w n env (rset r1 x (l.getD i .none)) os1 (execs body env) (fun f r' os' => match f with | .nxt | .cnt => Inv (i + 1) r' os' | _ => False))
    (hend : ∀ r' os', Inv l.length r' os' → XM w n env r' ((lf, .lst l) :: os') (execs rest env) P) : XM w n env r ((lf, .lst l) :: os) (execs (.For (.Name x p) iter body [] pos :: rest) env) P :=
  XM.seq fun A s Zo Z hb ao F => by
    have hlf := F.dj lf (List.mem_cons_self)
    have hnl := (List.nodup_cons.mp (show (lf :: places os).Nodup from F.nd)).1
    have src : wpAny (MM w) A (eval iter env) (fun xv s₁ => wpAny (MM w) A (pyIter xv) (fun it s₂ => SrcP w env r os A s Zo (lf :: Z) hb (.Name x p) (fun k gs os1 => k = l.length ∧ (gs = fun i => l.getD i .none) ∧ os1 = os) it s₂) NoE s₁) NoE s := by
      refine wpAny_mono (hv A s Zo Z hb ao F) (fun xv s₁ hZ => ?_) fun _ _ e => e
      obtain ⟨k1, rd⟩ := hZ
      cases rd
      have F1 := F.keeps k1.k
      obtain ⟨vs, m, e3, e4⟩ := F1.ow _ (.head _)
      have hL := lstO_isList e3
      have hlt : lf < s₁.heap.objs.size := Heap.lt_size e3
      refine wpAny_pyIter_list hL ?_
      have hsz : vs.size = l.length := by rw [← e4.len, Array.length_toList]
      have W := Walks.list (prog := PySem.Challenge.rw_nt0055_01.row.prog) (w := w) ao.hd s₁.heap.objs.size lf (Nat.ne_of_lt hlt) vs
      rw [hsz] at W
      have fr1 : ∀ b ∈ [s₁.heap.objs.size], s₁.heap.get? b = none := fun b hb => by rw [List.mem_singleton.mp hb]; exact size_none fun _ _ e => e
      have up : ∀ b o, s₁.heap.get? b = some o → (s₁.heap.push { cls := .type "list_iterator", data := .fields #[.ref lf, .int 0 0] }).get? b = some o := fun b o e => Heap.get?_push_of_some _ e
      have gI : (s₁.heap.push { cls := .type "list_iterator", data := .fields #[.ref lf, .int 0 0] }).get? s₁.heap.objs.size = some { cls := .type "list_iterator", data := .fields #[.ref lf, .int 0 0] } := Heap.get?_push_size _ rfl
      have F1a := F1.asideL
      have nI : ∀ b, b ∈ Zo ++ (places os ++ lf :: Z) → b ≠ s₁.heap.objs.size := fun b hb q => by
        obtain ⟨_, o, e⟩ := F1a.fi.e.z b hb
        rw [fr1 b (by simp [q])] at e; cases e
      refine ⟨_, _, _, _, _, _, _, _, s₁, ⟨rfl, rfl, rfl⟩, rfl, F1a, k1.sameM, Kp.push _ _, W, ⟨⟨_, gI, rfl, rfl⟩, hL.push _⟩, fun b hb => ?_, fr1, fun i h st b hb => ?_, fun i v hi hv => ?_, fun i v s' Q E hi hv st hq => wpAny_pure hq⟩
      · rcases List.mem_cons.mp hb with rfl | hb
        · exact ⟨fun q => nI _ (by simp [q]) rfl, fun q => nI _ (by simp [q]) rfl, _, gI⟩
        · rw [List.mem_singleton.mp hb]
          exact ⟨hlf.1, hnl, _, up _ _ e3⟩
      · rw [List.mem_singleton.mp hb]
        obtain ⟨o, e, _⟩ := st.1
        exact ⟨o, e⟩
      · exact Scal.rd (List.all_eq_true.mp hl _ (by rw [List.getD_eq_getElem?_getD, List.getElem?_eq_getElem hi]; exact List.getElem_mem hi)) (rds_at e4 (by simpa using hv))
    refine wpAny_mono (forCore (upd := fun g r => rset r x g) (Inv := fun k gs i r1 os1 => k = l.length ∧ (gs = fun i => l.getD i .none) ∧ Inv i r1 os1) ao hfold src (fun k gs os1 ⟨a, b, c⟩ => ⟨a, b, by rw [c]; exact h0⟩)
      (fun k gs i r1 os1 hi hZ => by
        obtain ⟨a, b, c⟩ := hZ
        subst a; subst b
        have h2 := turn i r1 os1 hi c
        refine ⟨TgtOK.name hx, fun A s Zo Z hb ao F => wpAny_mono (h2 A s Zo Z hb ao F) (fun fl s' ⟨f, r', os', p, q⟩ => ⟨f, r', os', ?_, q⟩) fun _ _ e => e⟩
        cases f <;> first | exact ⟨rfl, rfl, p⟩ | exact p))
      (fun fl s' hZ => by
        obtain ⟨e, k, gs, os0, r', os', ⟨hk, _⟩, ⟨_, _, hI⟩, F', sm⟩ := hZ
        subst e; subst hk
        obtain ⟨F2, m2⟩ := F.backL hl F' sm
        exact ⟨.nxt, r', _, hend r' os' hI, rfl, F2, m2⟩) fun _ _ e => e
theorem YF.compG0 {α β : Type} [Inhabited α] {elt iter : Expr} {scope sc : Scope} {pos px : Pos} {x : Str} {its : List α} {g : α → D} (h : β → D) (f : α → β) (hs : env.scope = sc) (hv : Y w n env r (eval iter env) (.lst (its.map g))) (ok : okComp sc r scope [x] = true)
    (hfold : ∀ x, foldedSetIterable iter env x = pure x) (hk : its.length ≤ sizeLine)
    (helt : ∀ a ∈ its, ∀ env', env'.scope = relabS sc scope → Y w n env' (rcomp scope r [x] [g a]) (eval elt env') (h (f a))) :
    YF w n env r (eval (.ListComp elt [⟨.Name x px, iter, [], 0⟩] scope pos) env) ((its.map f).map h) := by
  have hh := YF.comp (elt := elt) (ifs := []) (pos := pos) (p := fun _ => true) (f := fun i => h (f (its.getD i default))) hs (Src.ofV (x := x) (px := px) (SrcV.list hv)) ok hfold (by rw [List.length_map]; exact hk)
    (fun i hi env' hs' => YT.nil)
    (fun i hi hp env' hs' => by
      rw [List.length_map] at hi
      rw [getD_map_lt hi]
      exact helt _ (getD_mem hi) env' hs')
  rw [List.length_map, range_fm its (fun _ => true) (fun a => h (f a)), filter_tt] at hh
  rw [List.map_map]
  exact hh
end
noncomputable abbrev deckO (dk lf : Addr) (ls : List Int) (mx : Int) : Os := [(dk, .dct [("left", .own lf), ("mixed", .int mx)]), (lf, .lst (ls.map .int))]
section
variable {w : World} {n : Nat}
set_option maxHeartbeats 4000000
theorem deck_ok {sc : List Int} (hz : sc.length ≤ 1000) : CallM w (n + 1) 468 [.lst (sc.map .int)] [] (fun d os' => ∃ dk lf ls mx, d = .own dk ∧ os' = deckO dk lf ls mx ∧ ls.length ≤ 24 ∧ 0 ≤ mx ∧ mx < 1000003) := by
  refine call_fnM (ps := ["script"]) rfl rfl rfl (fun vs hl => ?_) (fun env hs => ?_)
  · obtain ⟨a, rfl⟩ := L1 hl; rfl
  have hsl : sc.length ≤ sizeLine := by rw [sizeLine_eq]; apply Ar.sz <;> assumption
  generalize hL : (sc.take (24 : Int).toNat).map (fun c => c.fmod 1000003) = L
  have hLl : L.length ≤ 24 := by rw [← hL, List.length_map, List.length_take]; show min 24 _ ≤ 24; lia
  refine XM.tupSwE (xs := ["left", "mixed"]) rfl (swOf hs rfl) (kAll hs rfl) (EM.tuple (P1 := fun ds os1 => ∃ lf, ds = [.own lf, .int 907] ∧ os1 = [(lf, .lst (L.map .int))]) (EMs.cons (P0 := fun d os1 => ∃ lf, d = .own lf ∧ os1 = [(lf, .lst (L.map .int))]) rfl (EM.ofYF ?_ (fun a => ⟨a, rfl, rfl⟩))
    (fun d os1 ⟨lf, e1, e2⟩ => EMs.cons (P0 := fun d os2 => d = .int 907 ∧ os2 = os1) rfl (EM.ofY Y.int ⟨rfl, rfl⟩) (fun d2 os2 ⟨e3, e4⟩ => EMs.nil ⟨lf, by rw [e1, e3], by rw [e4, e2]⟩))) (fun ds os1 hZ => ?_))
  · rw [← hL]
    refine YF.compG0 (its := sc.take (24 : Int).toNat) (g := D.int) D.int (fun c : Int => c.fmod 1000003) hs (S.toM (k := 24) (S.loc (kOf hs rfl) rfl rfl) Y.int ⟨by decide, hsl⟩) rfl (fun _ => rfl) (Nat.le_trans (by rw [List.length_take]; exact Nat.min_le_right _ _) hsl) (fun c hc env1 hs1 => ?_)
    exact Y.bin (S.intOf (kOf hs1 rfl) rfl rfl (S.loc (kOf hs1 rfl) rfl rfl)) Y.int (BinOK.modI (by decide))
  obtain ⟨lf, e1, e2⟩ := hZ
  subst e1; subst e2
  refine ⟨by rw [sizeLine_eq]; exact Nat.le_of_ble_eq_true rfl, _, rfl, rfl, ?_⟩
  refine XM.forO (os := []) (fun i r1 os1 => os1 = [] ∧ ∃ mx, RLe (rl [("left", .own lf), ("mixed", .int mx)]) r1 ∧ 0 ≤ mx ∧ mx < 1000003) (.inl (kOf hs rfl)) (fun _ => rfl) (YM.of (S.loc (kOf hs rfl) rfl rfl)) (by simp [List.all_eq_true, Scal]) ⟨rfl, 907, rle_of ⟨rfl, rfl, trivial⟩, by decide, by decide⟩ (fun i r1 os1 hi ⟨h1, mx, h2, h3, h4⟩ => ?_) (fun r1 os1 hZ => ?_)
  · subst h1
    rw [List.length_map] at hi
    rw [getD_map_lt hi]
    generalize L.getD i default = c
    refine XM.weak (rset_le h2 "cell" _) ?_
    refine XM.assign (d := .int ((mx * 31 + c + 1).fmod 1000003)) (YM.of (Y.bin (Y.bin (Y.bin (Y.bin (S.loc (kOf hs rfl) rfl rfl) Y.int (BinOK.mulI ?_)) (S.loc (kOf hs rfl) rfl rfl) (by first | with_reducible exact BinOK.addI | ktr_rel)) Y.int (by first | with_reducible exact BinOK.addI | ktr_rel)) Y.int (BinOK.modI (by decide)))) (.inl (kOf hs rfl)) rfl (XM.nil ⟨rfl, (mx * 31 + c + 1).fmod 1000003, rle_of ⟨rfl, rfl, trivial⟩, ?_, ?_⟩)
    · exact IntMulOk.of_right (intBits_le_64 (by decide) (by decide))
    · exact Int.fmod_nonneg_of_pos _ (by decide)
    · exact Int.fmod_lt_of_pos _ (by decide)
  · obtain ⟨h1, mx, h2, h3, h4⟩ := hZ
    subst h1
    refine XM.weak h2 ?_
    exact XM.retE (EM.dict (xs := ["left", "mixed"]) (ds := [.own lf, .int mx]) (P0 := fun d os' => ∃ dk lf ls mx, d = .own dk ∧ os' = deckO dk lf ls mx ∧ ls.length ≤ 24 ∧ 0 ≤ mx ∧ mx < 1000003) (.cons (S.loc (kOf hs rfl) rfl rfl) (.cons (S.loc (kOf hs rfl) rfl rfl) .nil)) (by intro h; cases h) (Nat.le_of_ble_eq_true rfl) (by decide) (fun a => ⟨a, lf, L, mx, rfl, rfl, hLl, h3, h4⟩)) (fun d os' h => .inl ⟨d, rfl, h⟩)
theorem draw_ok {dk lf : Addr} {ls : List Int} {mx many : Int} (hm : 0 < many) (hl : ls.length ≤ 24) (h0 : 0 ≤ mx) (h1 : mx < 1000003) :
    CallM w (n + 2) 475 [.own dk, .int many] (deckO dk lf ls mx) (fun d os' => ∃ v ls' mx', d = .int v ∧ 0 ≤ v ∧ v < many ∧ os' = deckO dk lf ls' mx' ∧ ls'.length ≤ 24 ∧ 0 ≤ mx' ∧ mx' < 1000003) := by
  refine call_fnM (ps := ["deck", "many"]) rfl rfl rfl (fun vs hl => ?_) (fun env hs => ?_)
  · obtain ⟨a, b, rfl⟩ := L2 hl; rfl
  have hmne : many ≠ 0 := by lia
  refine XM.ifs (b := ls != []) (YBM.borrow (fz := deckO dk lf ls mx) (more := []) (r' := rl [("deck", .dct [("left", .lst (ls.map .int)), ("mixed", .int mx)])]) rfl (frzR_of ⟨⟨_, rfl, .dct (.head _) (.cons (.lst (.tail _ (.head _)) (Frzs.refl _)) (.cons (.refl _) .nil))⟩, trivial⟩)
    (S.cmpB rfl (Y.itemD (S.loc (kOf hs rfl) rfl rfl) Y.str rfl (fun _ _ => rfl)) (Y.list Ys.nil (by rw [sizeLine_eq]; exact Nat.le_of_ble_eq_true rfl)) CmpOK.neLI0)) (fun h => ?_) (fun h => XM.nil ?_)
  · cases ls with
    | nil => cases h
    | cons a ls =>
      refine XM.retE (EM.binR (P0 := fun d os1 => d = .int a ∧ os1 = deckO dk lf ls mx) (P1 := fun d os' => ∃ v ls' mx', d = .int v ∧ 0 ≤ v ∧ v < many ∧ os' = deckO dk lf ls' mx' ∧ ls'.length ≤ 24 ∧ 0 ≤ mx' ∧ mx' < 1000003)
        (EM.pop0 (lb := lf) (d := .int a) (l := ls.map .int) (pre := [(dk, .dct [("left", .own lf), ("mixed", .int mx)])]) (post := []) rfl rfl ⟨_, rfl⟩ ?_ Y.int rfl ?_ ⟨rfl, rfl⟩) (S.loc (kOf hs rfl) rfl rfl) (fun d os1 hZ => ?_)) (fun d os' h => .inl ⟨d, rfl, h⟩)
      · exact YM.borrow (fz := [(dk, .dct [("left", .own lf), ("mixed", .int mx)])]) (more := [(lf, .lst ((a :: ls).map .int))]) (r' := rl [("deck", .dct [("left", .own lf), ("mixed", .int mx)])]) rfl (frzR_of ⟨⟨_, rfl, .dct (.head _) (Frze.refl _)⟩, trivial⟩) rfl (Y.itemD (S.loc (kOf hs rfl) rfl rfl) Y.str rfl (fun _ _ => rfl))
      · rw [List.length_map]; simp only [List.length_cons] at hl; lia
      · obtain ⟨e1, e2⟩ := hZ
        subst e1; subst e2
        refine ⟨_, BinOK.modI hmne, _, ls, mx, rfl, Int.fmod_nonneg_of_pos _ hm, Int.fmod_lt_of_pos _ hm, rfl, ?_, h0, h1⟩
        simp only [List.length_cons] at hl; apply Ar.j9 <;> assumption
  have fr1 : FrzR [(dk, .dct [("left", .own lf), ("mixed", .int mx)])] (rargs ["deck", "many"] [.own dk, .int many]) (rl [("deck", .dct [("left", .own lf), ("mixed", .int mx)])]) := frzR_of ⟨⟨_, rfl, .dct (.head _) (Frze.refl _)⟩, trivial⟩
  refine XM.setI rfl (EM.of (d := .int ((mx * 4801 + 97).fmod 1000003)) (YM.borrow (fz := [(dk, .dct [("left", .own lf), ("mixed", .int mx)])]) (more := [(lf, .lst (ls.map .int))]) rfl fr1 rfl (Y.bin (Y.bin (Y.bin (Y.itemD (S.loc (kOf hs rfl) rfl rfl) Y.str rfl (fun _ _ => rfl)) Y.int (BinOK.mulI (IntMulOk.of_right (intBits_le_64 (by decide) (by decide))))) Y.int BinOK.addI) Y.int (BinOK.modI (by decide))))
    (StoreAt.mk (pre := []) (post := [(lf, .lst (ls.map .int))]) (YM.of (S.loc (kOf hs rfl) rfl rfl)) (YM.of Y.str) (show (["left", "mixed"] : List Str).Nodup by decide) (Nat.le_of_ble_eq_true rfl) ?_))
  have g0 := Int.fmod_nonneg_of_pos (mx * 4801 + 97) (b := 1000003) (by decide)
  have g1 := Int.fmod_lt_of_pos (mx * 4801 + 97) (b := 1000003) (by decide)
  generalize (mx * 4801 + 97).fmod 1000003 = mm at g0 g1 ⊢
  show XM w _ env _ (deckO dk lf ls mm) _ _
  refine XM.ret (d := .int ((mm.fdiv 7).fmod many)) (YM.borrow (fz := [(dk, .dct [("left", .own lf), ("mixed", .int mm)])]) (more := [(lf, .lst (ls.map .int))]) (r' := rl [("deck", .dct [("left", .own lf), ("mixed", .int mm)]), ("many", .int many)]) rfl (frzR_of ⟨⟨_, rfl, .dct (.head _) (Frze.refl _)⟩, ⟨_, rfl, .refl _⟩, trivial⟩) rfl
    (Y.bin (Y.bin (Y.itemD (S.loc (kOf hs rfl) rfl rfl) Y.str rfl (fun _ _ => rfl)) Y.int (BinOK.divI (by decide) rfl)) (S.loc (kOf hs rfl) rfl rfl) (BinOK.modI hmne))) (.inl ⟨_, rfl, _, ls, mm, rfl, Int.fmod_nonneg_of_pos _ hm, Int.fmod_lt_of_pos _ hm, rfl, hl, g0, g1⟩)
end
end Uni
namespace Uni
theorem places_perm {a b : Os} (h : a.Perm b) : (places a).Perm (places b) := by
  induction h with
  | nil => exact .refl _
  | cons p _ ih => exact List.Perm.append_left _ ih
  | swap p q l =>
    show (placesOf q ++ (placesOf p ++ places l)).Perm (placesOf p ++ (placesOf q ++ places l))
    rw [← List.append_assoc, ← List.append_assoc]
    exact List.Perm.append_right _ List.perm_append_comm
  | trans _ _ ih1 ih2 => exact ih1.trans ih2
section
variable {w : World} {n : Nat} {env : Env} {r : Rho} {os os2 : Os} {P : Fl → Rho → Os → Prop}
theorem FIm.perm {Zo Z : List Addr} {hb h : Heap} (F : FIm w env Zo Z hb r os h) (q : os.Perm os2) : FIm w env Zo Z hb r os2 h where
  fi := F.fi.eqv fun b => by simp only [List.mem_append, (places_perm q).mem_iff]
  ow := fun p hp => (F.ow p (q.mem_iff.mpr hp)).less fun b hb => by simp only [List.mem_append, (places_perm q).mem_iff] at hb ⊢; exact hb
  nd := (places_perm q).nodup_iff.mp F.nd
  dj := fun b hb => F.dj b ((places_perm q).mem_iff.mpr hb)
theorem SameM.permL {Y : List Addr} {o1 o2 o3 : Os} {s s' : Shared} (x : SameM Y o1 o2 s s') (q : o1.Perm o3) : SameM Y o3 o2 s s' := ⟨x.eq, fun b o h1 h2 e => x.k b o h1 (fun z => h2 ((places_perm q).mem_iff.mp z)) e, fun b hb => (x.fr b hb).imp (places_perm q).mem_iff.mp id, x.lv⟩
theorem SameM.permR {Y : List Addr} {o1 o2 o3 : Os} {s s' : Shared} (x : SameM Y o1 o2 s s') (q : o2.Perm o3) : SameM Y o1 o3 s s' := ⟨x.eq, x.k, fun b hb => x.fr b ((places_perm q).mem_iff.mpr hb), x.lv⟩
theorem XM.perm {t : Sem Flow} (q : os.Perm os2) (h : XM w n env r os2 t P) : XM w n env r os t P := fun A s Zo Z hb ao F =>
  wpAny_mono (h A s Zo Z hb ao (F.perm q)) (fun fl s' ⟨f, r', os', p, z, F', sm⟩ => ⟨f, r', os', p, z, F', sm.permL q.symm⟩) fun _ _ e => e
theorem EM.perm {t : Sem Value} {P0 : D → Os → Prop} (h : EM w n env r os t (fun d os1 => ∃ os2, os1.Perm os2 ∧ P0 d os2)) : EM w n env r os t P0 := fun A s Zo Z hb ao F =>
  wpAny_mono (h A s Zo Z hb ao F) (fun v s' ⟨d, os1, ⟨os2, q, p⟩, rd, F', sm⟩ => ⟨d, os2, p, rd.less (fun b hb => by simp only [List.mem_append, (places_perm q).mem_iff] at hb ⊢; exact hb), F'.perm q, sm.permR q⟩) fun _ _ e => e
theorem CallM.perm {f : Addr} {ds : List D} {Pd : D → Os → Prop} (h : CallM w n f ds os (fun d os1 => ∃ os2, os1.Perm os2 ∧ Pd d os2)) : CallM w n f ds os Pd := fun A s Z hb vs ao p rd =>
  codeAny_mono (h A s Z hb vs ao p rd) fun res s' hZ => by
    obtain ⟨v, d, os1, e1, ⟨os2, q, hd⟩, rv, ow, nd, dj, sm, kb⟩ := hZ
    have sub : ∀ b, b ∈ places os2 ++ Z → b ∈ places os1 ++ Z := fun b hb => by simp only [List.mem_append, (places_perm q).mem_iff] at hb ⊢; exact hb
    exact ⟨v, d, os2, e1, hd, rv.less sub, fun x hx => (ow x (q.mem_iff.mpr hx)).less sub, (places_perm q).nodup_iff.mp nd, fun b hb => dj b ((places_perm q).mem_iff.mpr hb), sm.permR q, kb⟩
end
end Uni
namespace Uni
section
variable {w : World} {n : Nat} {env : Env} {r : Rho} {os : Os} {P : Fl → Rho → Os → Prop} {rest : List Stmt}
theorem YM.permu {os2 : Os} {t : Sem Value} {d : D} (q : os.Perm os2) (h : YM w n env r os2 t d) : YM w n env r os t d := fun A s Zo Z hb ao F =>
  wpAny_mono (h A s Zo Z hb ao (F.perm q)) (fun v s' ⟨k, rd⟩ => ⟨k, rd.less fun b hb => by simp only [List.mem_append, (places_perm q).mem_iff] at hb ⊢; exact hb⟩) fun _ _ e => e
theorem YBM.permu {os2 : Os} {t : Sem Bool} {d : Bool} (q : os.Perm os2) (h : YBM w n env r os2 t d) : YBM w n env r os t d := fun A s Zo Z hb ao F => h A s Zo Z hb ao (F.perm q)
noncomputable def CallAt (w : World) (n : Nat) (f : Addr) (ds : List D) (os : Os) (P0 : D → Os → Prop) : Prop := ∃ pre osA post Pd, os = pre ++ (osA ++ post) ∧ CallM w n f ds osA Pd ∧ ∀ d os2, Pd d os2 → P0 d (pre ++ (os2 ++ post))
theorem EM.callE {x : Str} {p pos : Pos} {e : Expr} {more : List Expr} {f : Addr} {P1 : List D → Os → Prop} {P0 : D → Os → Prop} (hpl : (backTo pos (starEach (e :: more) env)).any (·.1) = false) (hf : Y w n env r (eval (.Name x p) env) (.fn f)) (hk : keepIn (KK w) (.ref f) = true)
    (he : starEach (e :: more) env = (false, eval e env) :: starEach more env) (ha : EMs w n env r os (spliced (backTo pos (starEach (e :: more) env))) P1) (hc : ∀ ds os1, P1 ds os1 → CallAt w n f ds os1 P0) : EM w n env r os (eval (.Call (.Name x p) (e :: more) [] pos) env) P0 := fun A s Zo Z hb ao F => by
  refine wpAny_Call_Name_kw (wpAny_mono (hf A s _ ao F.fi.e) (fun v s₁ hZ => ?_) fun _ _ e => e)
  obtain ⟨k1, rf⟩ := hZ
  cases rf
  have F1 := F.keeps k1.k
  refine callWith_of (P := fun h => (KK w).In h) (by rw [hpl]; rfl) (keeps_K hk) (args_ofE ha ao F1 he fun vs s' ds os1 p1 rds F2 m2 => ?_)
  obtain ⟨pre, osA, post, Pd, e1, hc, hp⟩ := hc ds os1 p1
  subst e1
  refine ⟨F2.fi.e.wd.k, wpAny_mono (hc.frame.run ao F2 rds) (fun v s2 hZ => ?_) fun _ _ e => e⟩
  obtain ⟨d, os', ⟨os2, e1, hd⟩, rv, F3, m3⟩ := hZ
  subst e1
  exact ⟨d, _, hp d os2 hd, rv, F3, k1.sameM.trans (m2.trans m3)⟩
end
structure RmE where
  x : Str
  m : Rm
  a : Addr
  dx : Addr
noncomputable def mOs (L : List RmE) : Os := L.map fun e => (e.a, .inst 249 e.dx (rmF e.m))
noncomputable def kvO (L : List RmE) : List (Str × D) := L.map fun e => (e.x, D.own e.a)
noncomputable def hOs (x dx ma : Addr) (l : List (Str × D)) : Os := [(ma, .dct l), (x, .inst 298 dx (dtF (.dct defsD) (.own ma)))]
noncomputable def dOs (x dx ma : Addr) (L : List RmE) : Os := hOs x dx ma (kvO L) ++ mOs L
noncomputable def msOf (L : List RmE) : List (Str × Rm) := L.map fun e => (e.x, e.m)
noncomputable def dfOf (x : Str) : D := (defsD.lookup x).getD .none
noncomputable def rm0 (x : Str) : Rm := ⟨dfOf x, [0], [dfOf x]⟩
noncomputable def getM (ms : List (Str × Rm)) (x : Str) : Rm := (ms.lookup x).getD (rm0 x)
structure PutR (ms ms' : List (Str × Rm)) (x : Str) (f l : Int) (v : D) : Prop where
  nd : (ms'.map (·.1)).Nodup
  len : ms'.length ≤ ms.length + 1
  hit : ms'.lookup x = some (rput (getM ms x) f l v)
  off : ∀ y, y ≠ x → ms'.lookup y = ms.lookup y
theorem lookup_kvO {L : List RmE} {x : Str} {e : RmE} : ∀ {A B : List RmE}, L = A ++ e :: B → e.x = x → x ∉ A.map (·.x) → (kvO L).lookup x = some (.own e.a) ∧ (msOf L).lookup x = some e.m
  | [], B, hL, he, hn => by subst hL; subst he; simp [kvO, msOf]
  | q :: A, B, hL, he, hn => by
    subst hL
    simp only [List.map_cons, List.mem_cons, not_or] at hn
    have c : (x == q.x) = false := by simpa using hn.1
    have ih := lookup_kvO (L := A ++ e :: B) (A := A) rfl he hn.2
    simp only [kvO, msOf, List.cons_append, List.map_cons, List.lookup_cons, c] at ih ⊢
    exact ih
theorem split_ms {x : Str} {m : Rm} : ∀ {L : List RmE}, (msOf L).lookup x = some m → ∃ A e B, L = A ++ e :: B ∧ e.x = x ∧ e.m = m ∧ x ∉ A.map (·.x)
  | [], h => by simp [msOf] at h
  | q :: L, h => by
    simp only [msOf, List.map_cons, List.lookup_cons] at h
    by_cases c : x = q.x
    · subst c
      simp only [beq_self_eq_true, Option.some.injEq] at h
      exact ⟨[], q, L, rfl, rfl, h, by simp⟩
    · have c' : (x == q.x) = false := by simpa using c
      rw [c'] at h
      obtain ⟨A, e, B, e1, e2, e3, e4⟩ := split_ms (L := L) h
      exact ⟨q :: A, e, B, by rw [e1]; rfl, e2, e3, by simp only [List.map_cons, List.mem_cons, not_or]; exact ⟨c, e4⟩⟩
theorem lookup_none_of {α : Type} {x : Str} : ∀ {l : List (Str × α)}, x ∉ l.map (·.1) → l.lookup x = none
  | [], _ => rfl
  | p :: l, h => by
    simp only [List.map_cons, List.mem_cons, not_or] at h
    have c : (x == p.1) = false := by simpa using h.1
    rw [List.lookup_cons, c]
    exact lookup_none_of h.2
theorem notin_of {α : Type} {x : Str} : ∀ {l : List (Str × α)}, l.lookup x = none → x ∉ l.map (·.1)
  | [], _ => by simp
  | p :: l, h => by
    rw [List.lookup_cons] at h
    by_cases c : x = p.1
    · subst c; simp at h
    · have c' : (x == p.1) = false := by simpa using c
      rw [c'] at h
      simp only [List.map_cons, List.mem_cons, not_or]
      exact ⟨c, notin_of h⟩
theorem lookup_app {α : Type} {x : Str} {d : α} : ∀ {l : List (Str × α)}, l.lookup x = none → (l ++ [(x, d)]).lookup x = some d
  | [], _ => by simp
  | p :: l, h => by
    rw [List.lookup_cons] at h
    rw [List.cons_append, List.lookup_cons]
    cases c : (x == p.1) with
    | true => rw [c] at h; cases h
    | false => rw [c] at h; exact lookup_app h
theorem lookup_app_ne {α : Type} {x y : Str} {d : α} (hy : y ≠ x) : ∀ {l : List (Str × α)}, (l ++ [(x, d)]).lookup y = l.lookup y
  | [] => by simp [hy]
  | p :: l => by
    rw [List.cons_append, List.lookup_cons, List.lookup_cons, lookup_app_ne hy (l := l)]
theorem lookup_off {y : Str} {e : RmE} {m : Rm} (c : (y == e.x) = false) {B : List RmE} : ∀ {A : List RmE}, (msOf (A ++ { e with m := m } :: B)).lookup y = (msOf (A ++ e :: B)).lookup y
  | [] => by simp only [List.nil_append, msOf, List.map_cons, List.lookup_cons, c]
  | q :: A => by
    have ih := lookup_off (m := m) c (B := B) (A := A)
    simp only [List.cons_append, msOf, List.map_cons, List.lookup_cons] at ih ⊢
    rw [ih]
theorem msOf_names (L : List RmE) : (msOf L).map (·.1) = L.map (·.x) := by simp [msOf]
theorem kvO_names (L : List RmE) : (kvO L).map (·.1) = L.map (·.x) := by simp [kvO]
theorem fput_new {x : Str} {d : D} : ∀ {l : List (Str × D)}, x ∉ l.map (·.1) → fput x d l = l ++ [(x, d)]
  | [], _ => rfl
  | p :: l, h => by
    simp only [List.map_cons, List.mem_cons, not_or] at h
    unfold fput
    rw [if_neg (by simpa using h.1), fput_new h.2]; rfl
section
variable {w : World} {n : Nat}
set_option maxHeartbeats 4000000
noncomputable abbrev dataR (l : List (Str × D)) (name : Str) : List (Str × D) := [("self", .inst 298 (dtF (.dct defsD) (.dct l))), ("name", .str name)]
theorem data_frz {x dx ma : Addr} {l : List (Str × D)} {r : Rho} {name : Str} (h1 : r "self" = some (.own x)) (h2 : r "name" = some (.str name)) : FrzR (hOs x dx ma l) r (rl (dataR l name)) :=
  frzR_of ⟨⟨_, h1, .inst (.tail _ (.head _)) (.cons (.refl _) (.cons (.dct (.head _) (Frze.refl _)) (.cons (.refl _) (.cons (.refl _) .nil))))⟩, ⟨_, h2, .refl _⟩, trivial⟩
theorem mapof_old {x dx ma a : Addr} {l : List (Str × D)} {name : Str} (hl : l.lookup name = some (.own a)) : CallM w (n + 1) 295 [.own x, .str name] (hOs x dx ma l) (fun d os' => d = .own a ∧ os' = hOs x dx ma l) := by
  refine call_fnM (ps := ["self", "name"]) rfl rfl rfl (fun vs hl => ?_) (fun env hs => ?_)
  · obtain ⟨a, b, rfl⟩ := L2 hl; rfl
  refine XM.ifs (b := !(l.lookup name).isSome) (YBM.borrow (fz := hOs x dx ma l) (more := []) (r' := rl (dataR l name)) rfl (data_frz rfl rfl) (S.cmpB rfl (S.loc (kOf hs rfl) rfl rfl) (S.attr rfl (S.loc (kOf hs rfl) rfl rfl) rfl ⟨rfl, rfl⟩ rfl) CmpOK.ninD)) (fun h => ?_) (fun h => XM.nil ?_)
  · rw [hl] at h; cases h
  · exact XM.ret (d := .own a) (YM.borrow (fz := hOs x dx ma l) (more := []) (r' := rl (dataR l name)) rfl (data_frz rfl rfl) rfl (Y.itemD (S.attr rfl (S.loc (kOf hs rfl) rfl rfl) rfl ⟨rfl, rfl⟩ rfl) (S.loc (kOf hs rfl) rfl rfl) hl (fun _ _ => rfl))) (.inl ⟨_, rfl, rfl, rfl⟩)
theorem mapof_new {x dx ma : Addr} {l : List (Str × D)} {name : Str} (hl : l.lookup name = none) (nd : (l.map (·.1)).Nodup) (hz : l.length ≤ 900) (hd : Scal (dfOf name) = true) :
    CallM w (n + 3) 295 [.own x, .str name] (hOs x dx ma l) (fun d os' => ∃ a dm, d = .own a ∧ os' = (a, .inst 249 dm (rmF (rm0 name))) :: hOs x dx ma (fput name (.own a) l)) := by
  refine call_fnM (ps := ["self", "name"]) rfl rfl rfl (fun vs hl => ?_) (fun env hs => ?_)
  · obtain ⟨a, b, rfl⟩ := L2 hl; rfl
  refine XM.ifs (b := !(l.lookup name).isSome) (YBM.borrow (fz := hOs x dx ma l) (more := []) (r' := rl (dataR l name)) rfl (data_frz rfl rfl) (S.cmpB rfl (S.loc (kOf hs rfl) rfl rfl) (S.attr rfl (S.loc (kOf hs rfl) rfl rfl) rfl ⟨rfl, rfl⟩ rfl) CmpOK.ninD)) (fun h => ?_) (fun h => ?_)
  · refine XM.setI rfl (EM.callE (f := 249) (P1 := fun ds os1 => ds = [dfOf name] ∧ os1 = hOs x dx ma l) rfl (S.glob (kOf hs rfl) rfl rfl Stat.cls) rfl rfl
      (EMs.cons (P0 := fun d os1 => d = dfOf name ∧ os1 = hOs x dx ma l) rfl (EM.of (YM.borrow (fz := hOs x dx ma l) (more := []) (r' := rl (dataR l name)) rfl (data_frz rfl rfl) hd (Y.dictGet rfl rfl ⟨_, rfl⟩ (S.attr rfl (S.loc (kOf hs rfl) rfl rfl) rfl ⟨rfl, rfl⟩ rfl) (S.loc (kOf hs rfl) rfl rfl))) ⟨rfl, rfl⟩) (fun d os1 ⟨e1, e2⟩ => EMs.nil ⟨by rw [e1], e2⟩))
      (fun ds os1 hZ => ?_))
    obtain ⟨e1, e2⟩ := hZ
    subst e1; subst e2
    refine ⟨[], [], hOs x dx ma l, _, rfl, rmnew_ok (n := n), fun d os2 hZ => ?_⟩
    obtain ⟨a, e3, dm, e4⟩ := hZ
    subst e3; subst e4
    refine StoreAt.mk (pre := [(a, .inst 249 dm (rmF (rm0 name)))]) (post := [(x, .inst 298 dx (dtF (.dct defsD) (.own ma)))]) ?_ (YM.of (S.loc (kOf hs rfl) rfl rfl)) nd hz (XM.nil ?_)
    · exact YM.permu (List.perm_append_comm (l₁ := ([(a, .inst 249 dm (rmF (rm0 name))), (ma, .dct l)] : Os)) (l₂ := [(x, .inst 298 dx (dtF (.dct defsD) (.own ma)))])) (YM.borrow (fz := [(x, .inst 298 dx (dtF (.dct defsD) (.own ma)))]) (more := [(a, .inst 249 dm (rmF (rm0 name))), (ma, .dct l)]) (r' := rl [("self", .inst 298 (dtF (.dct defsD) (.own ma)))]) rfl (frzR_of ⟨⟨_, rfl, .inst (.head _) (Frze.refl _)⟩, trivial⟩) rfl (S.attr rfl (S.loc (kOf hs rfl) rfl rfl) rfl ⟨rfl, rfl⟩ rfl))
    · have hl2 : (fput name (.own a) l).lookup name = some (.own a) := by
        rw [fput_new (notin_of hl)]; exact lookup_app hl
      exact XM.ret (d := .own a) (YM.permu (List.perm_append_comm (l₁ := ([(a, .inst 249 dm (rmF (rm0 name)))] : Os)) (l₂ := hOs x dx ma (fput name (.own a) l))) (YM.borrow (fz := hOs x dx ma (fput name (.own a) l)) (more := [(a, .inst 249 dm (rmF (rm0 name)))]) (r' := rl (dataR (fput name (.own a) l) name)) rfl (data_frz rfl rfl) rfl (Y.itemD (S.attr rfl (S.loc (kOf hs rfl) rfl rfl) rfl ⟨rfl, rfl⟩ rfl) (S.loc (kOf hs rfl) rfl rfl) hl2 (fun _ _ => rfl)))) (.inl ⟨_, rfl, a, dm, rfl, rfl⟩)
  · rw [hl] at h; cases h
theorem dput_old {x dx ma : Addr} {L A B : List RmE} {e : RmE} (hL : L = A ++ e :: B) (hA : e.x ∉ A.map (·.x)) (hm : RmOk e.m) {f l : Int} {v : D} (h0 : 0 ≤ f) (hfl : f ≤ l) (hv : ∀ u ∈ e.m.va, SameK u v) (hz : e.m.st.length ≤ 900) :
    CallM w (n + 4) 281 [.own x, .str e.x, .int f, .int l, v] (dOs x dx ma L) (fun d os' => d = .none ∧ os' = dOs x dx ma (A ++ { e with m := rput e.m f l v } :: B)) := by
  refine call_fnM (ps := ["self", "name", "first", "last", "value"]) rfl rfl rfl (fun vs hl => ?_) (fun env hs => ?_)
  · obtain ⟨a, b, c, d, e, rfl⟩ := L5 hl; rfl
  have hk : kvO (A ++ { e with m := rput e.m f l v } :: B) = kvO L := by subst hL; simp [kvO]
  have hlk := (lookup_kvO hL rfl hA).1
  have hm1 : mOs L = mOs A ++ ([(e.a, Ow.inst 249 e.dx (rmF e.m))] ++ mOs B) := by subst hL; simp [mOs]
  have hm2 : mOs (A ++ { e with m := rput e.m f l v } :: B) = mOs A ++ ([(e.a, Ow.inst 249 e.dx (rmF (rput e.m f l v)))] ++ mOs B) := by simp [mOs]
  refine XM.exprE (interOf hs rfl) rfl (EM.meth (P0 := fun d os' => d = .none ∧ os' = dOs x dx ma (A ++ { e with m := rput e.m f l v } :: B)) rfl ⟨_, rfl⟩ (EM.meth rfl ⟨_, rfl⟩ (EM.ofY (S.loc (d := .own x) (kOf hs rfl) rfl rfl)
    (MethAt.mk (a := x) (c := 298) (dx := dx) (f := 295) (fs := dtF (.dct defsD) (.own ma)) (pre := []) (osA := hOs x dx ma (kvO L)) (post := mOs L) (ds := [.str e.x]) (.tail _ (.head _)) rfl ⟨rfl, rfl⟩ rfl rfl rfl (S.consA rfl (S.loc (kOf hs rfl) rfl rfl) Ys.nil) (ArgsOk.cons rfl) (mapof_old (n := n + 2) hlk) (fun d os2 hZ => ?_))))) (fun d os' ⟨e1, e2⟩ => XM.nil (.inr ⟨rfl, rfl, e2⟩))
  obtain ⟨e1, e2⟩ := hZ
  subst e1; subst e2
  rw [hm1]
  show MethAt _ _ _ _ _ _ _ _ (.own e.a) (hOs x dx ma (kvO L) ++ (mOs A ++ ([(e.a, Ow.inst 249 e.dx (rmF e.m))] ++ mOs B)))
  rw [← List.append_assoc]
  refine MethAt.mk (a := e.a) (c := 249) (dx := e.dx) (f := 232) (fs := rmF e.m) (pre := hOs x dx ma (kvO L) ++ mOs A) (osA := [(e.a, Ow.inst 249 e.dx (rmF e.m))]) (post := mOs B) (ds := [.int f, .int l, v]) (.head _) rfl ⟨rfl, rfl⟩ rfl rfl rfl (S.consA rfl (S.loc (kOf hs rfl) rfl rfl) (S.consA rfl (S.loc (kOf hs rfl) rfl rfl) (S.consA rfl (S.loc (kOf hs rfl) rfl rfl) Ys.nil))) (ArgsOk.cons rfl) (rput_ok (n := n) hm h0 hfl hv hz) (fun d os2 ⟨e1, e2⟩ => ⟨e1, ?_⟩)
  rw [e2]
  show (hOs x dx ma (kvO L) ++ mOs A) ++ _ = hOs x dx ma (kvO (A ++ { e with m := rput e.m f l v } :: B)) ++ mOs (A ++ { e with m := rput e.m f l v } :: B)
  rw [hk, hm2, List.append_assoc]
theorem dput_new {x dx ma : Addr} {L : List RmE} {name : Str} (hA : name ∉ L.map (·.x)) (nd : (L.map (·.x)).Nodup) (hl9 : L.length ≤ 900) (hd : Scal (dfOf name) = true) (hm : RmOk (rm0 name)) {f l : Int} {v : D} (h0 : 0 ≤ f) (hfl : f ≤ l) (hv : ∀ u ∈ (rm0 name).va, SameK u v) :
    CallM w (n + 4) 281 [.own x, .str name, .int f, .int l, v] (dOs x dx ma L) (fun d os' => ∃ a dm, d = .none ∧ os' = [(a, Ow.inst 249 dm (rmF (rput (rm0 name) f l v)))] ++ (hOs x dx ma (kvO (L ++ [⟨name, rput (rm0 name) f l v, a, dm⟩])) ++ mOs L)) := by
  refine call_fnM (ps := ["self", "name", "first", "last", "value"]) rfl rfl rfl (fun vs hl => ?_) (fun env hs => ?_)
  · obtain ⟨a, b, c, d, e, rfl⟩ := L5 hl; rfl
  have hlk : (kvO L).lookup name = none := lookup_none_of (by rw [kvO_names]; exact hA)
  refine XM.exprE (interOf hs rfl) rfl (EM.meth (P0 := fun d os' => ∃ a dm, d = .none ∧ os' = [(a, Ow.inst 249 dm (rmF (rput (rm0 name) f l v)))] ++ (hOs x dx ma (kvO (L ++ [⟨name, rput (rm0 name) f l v, a, dm⟩])) ++ mOs L)) rfl ⟨_, rfl⟩ (EM.meth rfl ⟨_, rfl⟩ (EM.ofY (S.loc (d := .own x) (kOf hs rfl) rfl rfl)
    (MethAt.mk (a := x) (c := 298) (dx := dx) (f := 295) (fs := dtF (.dct defsD) (.own ma)) (pre := []) (osA := hOs x dx ma (kvO L)) (post := mOs L) (ds := [.str name]) (.tail _ (.head _)) rfl ⟨rfl, rfl⟩ rfl rfl rfl (S.consA rfl (S.loc (kOf hs rfl) rfl rfl) Ys.nil) (ArgsOk.cons rfl) (mapof_new (n := n) hlk (by rw [kvO_names]; exact nd) (by simpa [kvO] using hl9) hd) (fun d os2 hZ => ?_))))) (fun d os' ⟨a, dm, e1, e2⟩ => XM.nil (.inr ⟨rfl, a, dm, rfl, e2⟩))
  obtain ⟨a, dm, e1, e2⟩ := hZ
  subst e1; subst e2
  have hf : fput name (.own a) (kvO L) = kvO (L ++ [⟨name, rput (rm0 name) f l v, a, dm⟩]) := by
    rw [fput_new (by rw [kvO_names]; exact hA)]; simp [kvO]
  refine MethAt.mk (a := a) (c := 249) (dx := dm) (f := 232) (fs := rmF (rm0 name)) (pre := []) (osA := [(a, Ow.inst 249 dm (rmF (rm0 name)))]) (post := hOs x dx ma (fput name (.own a) (kvO L)) ++ mOs L) (ds := [.int f, .int l, v]) (.head _) rfl ⟨rfl, rfl⟩ rfl rfl rfl (S.consA rfl (S.loc (kOf hs rfl) rfl rfl) (S.consA rfl (S.loc (kOf hs rfl) rfl rfl) (S.consA rfl (S.loc (kOf hs rfl) rfl rfl) Ys.nil))) (ArgsOk.cons rfl) (rput_ok (n := n) hm h0 hfl hv (Nat.le_of_ble_eq_true rfl)) (fun d os2 ⟨e1, e2⟩ => ⟨a, dm, e1, ?_⟩)
  rw [e2, hf]; rfl
theorem dput_ok {x dx ma : Addr} {L : List RmE} {name : Str} (nd : ((msOf L).map (·.1)).Nodup) (hl9 : L.length ≤ 900) (hd : Scal (dfOf name) = true) (hm : RmOk (getM (msOf L) name)) {f l : Int} {v : D} (h0 : 0 ≤ f) (hfl : f ≤ l) (hv : ∀ u ∈ (getM (msOf L) name).va, SameK u v)
    (hz : (getM (msOf L) name).st.length ≤ 900) : CallM w (n + 4) 281 [.own x, .str name, .int f, .int l, v] (dOs x dx ma L) (fun d os' => d = .none ∧ ∃ L', os' = dOs x dx ma L' ∧ PutR (msOf L) (msOf L') name f l v) := by
  cases hlk : (msOf L).lookup name with
  | some m =>
    obtain ⟨A, e, B, hL, e2, e3, hA⟩ := split_ms hlk
    subst e2
    have hg : getM (msOf L) e.x = e.m := by unfold getM; rw [hlk, e3]; rfl
    rw [hg] at hm hv hz
    refine (dput_old (n := n) hL hA hm h0 hfl hv hz).mono fun d os' ⟨h1, h2⟩ => ⟨h1, _, h2, ?_⟩
    subst hL
    refine ⟨?_, ?_, ?_, fun y hy => ?_⟩
    · rw [msOf_names] at nd ⊢
      simpa using nd
    · simp [msOf]
    · rw [hg]; exact (lookup_kvO (L := A ++ { e with m := rput e.m f l v } :: B) (A := A) rfl rfl hA).2
    · exact lookup_off (by simpa using hy)
  | none =>
    have hA := notin_of hlk
    rw [msOf_names] at hA nd
    have hg : getM (msOf L) name = rm0 name := by unfold getM; rw [hlk]; rfl
    rw [hg] at hm hv hz
    refine CallM.perm ((dput_new (n := n) hA nd hl9 hd hm h0 hfl hv).mono fun d os' ⟨a, dm, h1, h2⟩ => ⟨dOs x dx ma (L ++ [⟨name, rput (rm0 name) f l v, a, dm⟩]), ?_, h1, _, rfl, ?_⟩)
    · rw [h2]
      refine List.perm_append_comm.trans ?_
      rw [List.append_assoc]
      have : mOs L ++ [(a, Ow.inst 249 dm (rmF (rput (rm0 name) f l v)))] = mOs (L ++ [⟨name, rput (rm0 name) f l v, a, dm⟩]) := by simp [mOs]
      rw [this]; exact .refl _
    · have e : msOf (L ++ [⟨name, rput (rm0 name) f l v, a, dm⟩]) = msOf L ++ [(name, rput (rm0 name) f l v)] := by simp [msOf]
      rw [e]
      refine ⟨?_, by simp, by rw [hg]; exact lookup_app hlk, fun y hy => lookup_app_ne hy⟩
      rw [List.map_append, msOf_names, List.nodup_append]
      refine ⟨nd, by simp, fun p hp q hq h => ?_⟩
      simp only [List.map_cons, List.map_nil, List.mem_singleton] at hq
      subst h; subst hq
      exact hA hp
end
end Uni
set_option linter.unusedSimpArgs false
namespace Uni
theorem cle_app (a b : List Int) (c : Int) : cle (a ++ b) c = cle a c + cle b c := by simp [cle]
theorem take_cle (x : Int) : ∀ {st : List Int}, st.Pairwise (· < ·) → st.take (cle st x) = st.filter (· ≤ x)
  | [], _ => rfl
  | a :: st, hp => by
    obtain ⟨h1, h2⟩ := List.pairwise_cons.mp hp
    have ih := take_cle x h2
    unfold cle at ih ⊢
    by_cases ha : a ≤ x
    · simp [List.filter_cons, ha, ih]
    · have : st.filter (fun s => decide (s ≤ x)) = [] := by
        rw [List.filter_eq_nil_iff]
        intro s hs
        have := h1 s hs
        simp; lia
      simp [List.filter_cons, ha, this]
theorem drop_cle (x : Int) : ∀ {st : List Int}, st.Pairwise (· < ·) → st.drop (cle st x) = st.filter (fun s => decide (x < s))
  | [], _ => rfl
  | a :: st, hp => by
    obtain ⟨h1, h2⟩ := List.pairwise_cons.mp hp
    have ih := drop_cle x h2
    unfold cle at ih ⊢
    by_cases ha : a ≤ x
    · have hn : ¬ x < a := by lia
      simp [List.filter_cons, ha, hn, ih]
    · have h0 : st.filter (fun s => decide (s ≤ x)) = [] := by
        rw [List.filter_eq_nil_iff]
        intro s hs
        have := h1 s hs
        simp; lia
      have h3 : st.filter (fun s => decide (x < s)) = st := by
        rw [List.filter_eq_self]
        intro s hs
        have := h1 s hs
        simp; lia
      have hx : x < a := by lia
      simp [List.filter_cons, ha, hx, h0, h3]
theorem get_parts {α : Type} (va V : List α) (low high : Nat) (h : low ≤ va.length) (i : Nat) : (va.take low ++ V ++ va.drop high)[i]? = if i < low then va[i]? else if i < low + V.length then V[i - low]? else va[high + (i - low - V.length)]? := by
  have hl : (va.take low).length = low := by rw [List.length_take]; lia
  by_cases c1 : i < low
  · rw [if_pos c1, List.append_assoc, List.getElem?_append_left (by apply Ar.le <;> assumption), List.getElem?_take_of_lt c1]
  · rw [if_neg c1, List.append_assoc, List.getElem?_append_right (by lia), hl]
    by_cases c2 : i < low + V.length
    · rw [if_pos c2, List.getElem?_append_left (by apply Ar.u3 <;> assumption)]
    · rw [if_neg c2, List.getElem?_append_right (by apply Ar.u2 <;> assumption), List.getElem?_drop]
theorem cle_le_le {c : Int} : ∀ {st : List Int}, (∀ s ∈ st, s ≤ c) → cle st c = st.length := fun {st} h => by
  unfold cle
  rw [List.filter_eq_self.mpr]
  intro s hs; simpa using h s hs
theorem cle_gt {c : Int} : ∀ {st : List Int}, (∀ s ∈ st, c < s) → cle st c = 0 := fun {st} h => by
  unfold cle
  rw [List.filter_eq_nil_iff.mpr]; rfl
  intro s hs
  have := h s hs
  simp; assumption
theorem cle_mono {a b : Int} (h : a ≤ b) : ∀ st : List Int, cle st a ≤ cle st b
  | [] => Nat.le_refl _
  | s :: st => by
    have ih := cle_mono h st
    unfold cle at ih ⊢
    simp only [List.filter_cons]
    split <;> split <;> simp_all <;> lia
theorem cle_split {x c : Int} (h : x ≤ c) : ∀ st : List Int, cle st c = cle st x + cle (st.filter (fun s => decide (x < s))) c
  | [] => rfl
  | s :: st => by
    have ih := cle_split h st
    unfold cle at ih ⊢
    simp only [List.filter_cons, List.filter_filter] at ih ⊢
    by_cases h1 : s ≤ x
    · have h2 : s ≤ c := by apply Ar.v6i <;> assumption
      have h3 : ¬ x < s := by lia
      simp only [h1, h2, h3, decide_true, decide_false, if_true, Bool.false_eq_true, if_false, List.length_cons, Bool.false_and, List.filter_filter]
      rw [ih]
      exact Ar.k5
    · have h3 : x < s := by lia
      by_cases h2 : s ≤ c
      · simp only [h1, h2, h3, decide_true, decide_false, if_true, Bool.false_eq_true, if_false, List.length_cons, List.filter_cons, List.filter_filter]
        rw [ih]
        exact Ar.k6
      · simp only [h1, h2, h3, decide_true, decide_false, if_true, Bool.false_eq_true, if_false, List.filter_cons, List.filter_filter]
        rw [ih]
theorem SameK.self {a b : D} (h : SameK a b) : SameK b b := by cases h <;> constructor
structure RGood (m m' : Rm) (f l : Int) (v : D) : Prop where
  ok : RmOk m'
  len : m'.st.length ≤ m.st.length + 2
  va : ∀ u ∈ m'.va, SameK u v
  get : ∀ c, 0 ≤ c → m'.get c = if f ≤ c ∧ c ≤ l then some v else m.get c
theorem rput_good {m : Rm} (hm : RmOk m) {f l : Int} {v : D} (h0 : 0 ≤ f) (hfl : f ≤ l) (hl : l < 1114111) (hv : ∀ u ∈ m.va, SameK u v) (hz : m.st.length ≤ 900) : RGood m (rput m f l v) f l v := by
  have hlow : rlow m f ≤ m.st.length := cle_le _ _
  have hhigh : rhigh m l ≤ m.st.length := cle_le _ _
  have hlen := hm.len
  have hsrt := hm.srt
  have hA : m.st.take (rlow m f) = m.st.filter (· ≤ f - 1) := take_cle _ hsrt
  have hB : m.st.drop (rhigh m l) = m.st.filter (fun s => decide (l + 1 < s)) := drop_cle _ hsrt
  have hAm : ∀ s ∈ m.st.take (rlow m f), s < f := fun s hs => by rw [hA] at hs; have := (List.mem_filter.mp hs).2; simp at this; apply Ar.ah <;> assumption
  have hBm : ∀ s ∈ m.st.drop (rhigh m l), l + 1 < s := fun s hs => by rw [hB] at hs; simpa using (List.mem_filter.mp hs).2
  have hSm : ∀ s ∈ rS m f l v, f ≤ s ∧ s ≤ l + 1 := fun s hs => by
    have : s ∈ [f, l + 1] := by
      unfold rS at hs
      revert hs
      cases rc1 m l v <;> cases rc2 m f v <;> simp <;> intro h <;> simp [h]
    simp at this
    rcases this with rfl | rfl <;> lia
  have hSp : (rS m f l v).Pairwise (· < ·) := by
    have h2 : f < l + 1 := by lia
    unfold rS
    cases rc1 m l v <;> cases rc2 m f v <;> simp [h2]
  have hSV : (rV m f l v).length = (rS m f l v).length := by
    unfold rS rV
    cases rc1 m l v <;> cases rc2 m f v <;> rfl
  have hS2 : (rS m f l v).length ≤ 2 := by
    unfold rS
    cases rc1 m l v <;> cases rc2 m f v <;> simp
  have hh1 : 1 ≤ rhigh m l := hm.one (by lia)
  have hlt : rhigh m l - 1 < m.va.length := by apply Ar.u4 <;> assumption
  have hbm : rbeh m l ∈ m.va := by
    unfold rbeh
    rw [List.getD_eq_getElem?_getD, List.getElem?_eq_getElem hlt]; exact List.getElem_mem hlt
  have hbg : m.va[rhigh m l - 1]? = some (rbeh m l) := by
    unfold rbeh
    rw [List.getD_eq_getElem?_getD, List.getElem?_eq_getElem hlt]; rfl
  have hbk := hv _ hbm
  have hc2 : rc2 m f v = true → 0 < rlow m f ∧ m.va[rlow m f - 1]? = some v := fun h => by
    unfold rc2 at h
    rw [Bool.and_eq_true, decide_eq_true_eq] at h
    obtain ⟨h1, h2⟩ := h
    have hlm : rlow m f - 1 < m.va.length := by apply Ar.u6 <;> assumption
    have hmem : m.va.getD (rlow m f - 1) .none ∈ m.va := by rw [List.getD_eq_getElem?_getD, List.getElem?_eq_getElem hlm]; exact List.getElem_mem hlm
    have := (likeD_eq (hv _ hmem)).mp h2
    refine ⟨by lia, ?_⟩
    rw [← this, List.getD_eq_getElem?_getD, List.getElem?_eq_getElem hlm]; rfl
  have hc1 : rc1 m l v = false → rbeh m l = v := fun h => by
    unfold rc1 at h
    rw [decide_eq_true hl, Bool.true_and, Bool.not_eq_false'] at h
    exact (likeD_eq hbk).mp h
  refine ⟨⟨?_, ?_, ?_, ?_⟩, ?_, fun u hu => ?_, fun c hc => ?_⟩
  · show (m.st.take (rlow m f) ++ rS m f l v ++ m.st.drop (rhigh m l)).Pairwise (· < ·)
    rw [List.pairwise_append, List.pairwise_append]
    refine ⟨⟨hsrt.sublist (List.take_sublist _ _), hSp, fun a ha b hb => ?_⟩, hsrt.sublist (List.drop_sublist _ _), fun a ha b hb => ?_⟩
    · have := hAm a ha; have := (hSm b hb).1; apply Ar.v3i <;> assumption
    · have h2 := hBm b hb
      rcases List.mem_append.mp ha with ha | ha
      · have := hAm a ha; lia
      · have := (hSm a ha).2; apply Ar.v4i <;> assumption
  · show (m.va.take (rlow m f) ++ rV m f l v ++ m.va.drop (rhigh m l)).length = (m.st.take (rlow m f) ++ rS m f l v ++ m.st.drop (rhigh m l)).length
    simp only [List.length_append, List.length_take, List.length_drop, hSV, hlen]
  · show (m.st.take (rlow m f) ++ rS m f l v ++ m.st.drop (rhigh m l)).head? = some 0
    have hh := hm.hd
    by_cases hl0 : rlow m f = 0
    · have hf0 : f = 0 := by
        have : ¬ 1 ≤ rlow m f := by lia
        have : ¬ 0 ≤ f - 1 := fun q => this (hm.one q)
        lia
      have hr2 : rc2 m f v = false := by
        cases h : rc2 m f v with
        | false => rfl
        | true => have := (hc2 h).1; lia
      rw [hl0, List.take_zero, List.nil_append]
      unfold rS
      rw [hr2, hf0]
      cases rc1 m l v <;> rfl
    · cases hst : m.st with
      | nil => rw [hst] at hh; simp at hh
      | cons a st =>
        rw [hst] at hh
        obtain ⟨q, hq⟩ : ∃ q, rlow m f = q + 1 := ⟨rlow m f - 1, by apply Ar.sp0 <;> assumption⟩
        rw [hq]; simpa using hh
  · show (m.st.take (rlow m f) ++ rS m f l v ++ m.st.drop (rhigh m l)).length ≤ 1000
    simp only [List.length_append, List.length_take, List.length_drop]
    have : rlow m f ≤ rhigh m l := cle_mono (by lia) _
    apply Ar.m5 <;> assumption
  · show (m.st.take (rlow m f) ++ rS m f l v ++ m.st.drop (rhigh m l)).length ≤ _
    simp only [List.length_append, List.length_take, List.length_drop]
    have : rlow m f ≤ rhigh m l := cle_mono (by lia) _
    apply Ar.m4 <;> assumption
  · have hu : u ∈ m.va.take (rlow m f) ++ rV m f l v ++ m.va.drop (rhigh m l) := hu
    simp only [List.mem_append] at hu
    rcases hu with (hu | hu) | hu
    · exact hv u (List.mem_of_mem_take hu)
    · have : u ∈ [v, rbeh m l] := by
        unfold rV at hu
        revert hu
        cases rc1 m l v <;> cases rc2 m f v <;> simp <;> intro h <;> simp [h]
      simp at this
      rcases this with rfl | rfl
      · exact hbk.self
      · exact hbk
    · exact hv u (List.mem_of_mem_drop hu)
  · show (m.va.take (rlow m f) ++ rV m f l v ++ m.va.drop (rhigh m l))[cle (m.st.take (rlow m f) ++ rS m f l v ++ m.st.drop (rhigh m l)) c - 1]? = _
    rw [get_parts _ _ _ _ (by lia), cle_app, cle_app, hSV]
    have hlA : (m.st.take (rlow m f)).length = rlow m f := by rw [List.length_take]; lia
    by_cases c1 : c < f
    · rw [if_neg (c := f ≤ c ∧ c ≤ l) (by lia)]
      have e2 : cle (rS m f l v) c = 0 := cle_gt fun s hs => by have := (hSm s hs).1; apply Ar.v3i <;> assumption
      have e3 : cle (m.st.drop (rhigh m l)) c = 0 := cle_gt fun s hs => by have := hBm s hs; lia
      have e1 : cle (m.st.take (rlow m f)) c = cle m.st c := by
        rw [hA]
        unfold cle
        rw [List.filter_filter]
        congr 1
        refine List.filter_congr fun s _ => ?_
        rw [Bool.eq_iff_iff]; simp; lia
      have hp := hm.one hc
      have hle : cle m.st c ≤ rlow m f := cle_mono (by apply Ar.ai <;> assumption) _
      rw [e1, e2, e3, if_pos (by lia)]; rfl
    · have e1 : cle (m.st.take (rlow m f)) c = rlow m f := by rw [cle_le_le fun s hs => by have := hAm s hs; lia, hlA]
      by_cases c2 : c ≤ l
      · rw [if_pos (c := f ≤ c ∧ c ≤ l) ⟨by lia, c2⟩]
        have e3 : cle (m.st.drop (rhigh m l)) c = 0 := cle_gt fun s hs => by have := hBm s hs; apply Ar.ak <;> assumption
        have e2 : cle (rS m f l v) c = if rc2 m f v then 0 else 1 := by
          have q1 : f ≤ c := by lia
          have q2 : ¬ l + 1 ≤ c := by lia
          unfold rS cle
          cases rc1 m l v <;> cases rc2 m f v <;> simp [q1, q2]
        rw [e1, e2, e3]
        cases h2 : rc2 m f v with
        | true =>
          obtain ⟨g1, g2⟩ := hc2 h2
          simp only [if_true]
          rw [if_pos (by lia)]
          simpa using g2
        | false =>
          have hpos : 0 < (rS m f l v).length := by unfold rS; rw [h2]; cases rc1 m l v <;> simp
          simp only [Bool.false_eq_true, if_false]
          rw [if_neg (by lia), if_pos (by lia), show rlow m f + 1 + 0 - 1 - rlow m f = 0 by lia]
          unfold rV; rw [h2]; cases rc1 m l v <;> rfl
      · rw [if_neg (c := f ≤ c ∧ c ≤ l) (by lia)]
        have e2 : cle (rS m f l v) c = (rS m f l v).length := cle_le_le fun s hs => by have := (hSm s hs).2; apply Ar.aj <;> assumption
        have e3 : cle m.st c = rhigh m l + cle (m.st.drop (rhigh m l)) c := by rw [hB]; exact cle_split (by lia) _
        rw [e1, e2]
        show _ = m.va[cle m.st c - 1]?
        rw [e3]
        generalize cle (m.st.drop (rhigh m l)) c = t
        by_cases ht : t = 0
        · subst ht
          rw [Nat.add_zero, Nat.add_zero, hbg]
          cases h1 : rc1 m l v with
          | true =>
            have hVl : (rV m f l v)[(rS m f l v).length - 1]? = some (rbeh m l) := by
              unfold rV rS; rw [h1]; cases rc2 m f v <;> rfl
            have hpos : 0 < (rS m f l v).length := by unfold rS; rw [h1]; cases rc2 m f v <;> simp
            rw [if_neg (by apply Ar.g4 <;> assumption), if_pos (by apply Ar.g5 <;> assumption), show rlow m f + (rS m f l v).length - 1 - rlow m f = (rS m f l v).length - 1 by exact Ar.g6, hVl]
          | false =>
            have hbv := hc1 h1
            cases h2 : rc2 m f v with
            | true =>
              obtain ⟨g1, g2⟩ := hc2 h2
              have hS0 : (rS m f l v).length = 0 := by unfold rS; rw [h1, h2]; rfl
              rw [hS0, if_pos (by lia), hbv]; simpa using g2
            | false =>
              have hS1 : (rS m f l v).length = 1 := by unfold rS; rw [h1, h2]; rfl
              rw [hS1, if_neg (by lia), if_pos (by lia), show rlow m f + 1 - 1 - rlow m f = 0 by exact Ar.g6, hbv]
              unfold rV; rw [h1, h2]; rfl
        · rw [if_neg (by apply Ar.g3 <;> assumption), if_neg (by apply Ar.g2 <;> assumption)]
          congr 1; apply Ar.g1 <;> assumption
end Uni
namespace Uni
section
variable {w : World} {n : Nat} {env : Env} {r : Rho}
theorem asgCompE {x : Str} {px spos : Pos} {PP : Fl → Rho → Prop} {elt target iter : Expr} {ifs : List Expr} {scope sc : Scope} {pos : Pos} {xs : List Str} {k : Nat} {gs : Nat → List D} {p : Nat → Bool} {f : Nat → D} (hs : env.scope = sc) (hsrc : Src w n env r iter target xs k gs) (ok : okComp sc r scope xs = true)
    (hsw : swapsWith (.ListComp elt [⟨target, iter, ifs, 0⟩] scope pos) (some (.Name x px)) spos.line env = pure true) (hx : KindOk env x)
    (hfold : ∀ x, foldedSetIterable iter env x = pure x) (hk : k ≤ sizeLine)
    (htest : ∀ i, i < k → ∀ env', env'.scope = relabS sc scope → YT w n env' (rcomp scope r xs (gs i)) ifs (p i))
    (helt : ∀ i, i < k → p i = true → ∀ env', env'.scope = relabS sc scope → Y w n env' (rcomp scope r xs (gs i)) (eval elt env') (f i))
    (h : PP .nxt (rset r x (.lst (((List.range k).filter p).map f)))) :
    X w n env r (exec (.Assign [.Name x px] (.ListComp elt [⟨target, iter, ifs, 0⟩] scope pos) spos) env) PP :=
  fun A s Zo Z hb ao F => by
    rw [exec_Assign_Name_used _ _ _ _ hsw]
    refine wpAny_bind (wpAny_standAt (wpAny_bind ?_))
    show wpAny _ A (do let _ ← comprehension (.ListComp elt [⟨target, iter, ifs, 0⟩] scope pos) scope env _ (newList []) false (eval iter env) (some (assign (.Name x px) env))) _ _ s
    have okk := okComp_kind ok
    refine wpAny_bind (wpAny_mono (wpAny_comprehension_free (use := some (assign (.Name x px) env)) (Q := fun _ s' => ∃ f' r', PP f' r' ∧ FlRd w s'.heap (Zo ++ Z) f' .next ∧ FIs w env Zo Z hb r' s'.heap ∧ Same Zo s s') rfl hfold (okComp_free F.e hs ok) okk.1 okk.2
      (wpAny_mono (hsrc A s _ ao F.e) (fun xv s₁ h₁ => wpAny_mono h₁ (fun it s₂ h₂ => ?_) fun _ _ e => e) fun _ _ e => e)) (fun _ s' hq => wpAny_pure (wpAny_pure hq)) fun _ _ e => e)
    obtain ⟨I, fp, wr, P, St, rfl, k02, W, hst, hfp, hwr, hwl, hP⟩ := h₂
    refine comp_block (RR := fun acc C => compPost (MM w) A NoE (some (assign (.Name x px) env)) (fun _ s' => ∃ f' r', PP f' r' ∧ FlRd w s'.heap (Zo ++ Z) f' .next ∧ FIs w env Zo Z hb r' s'.heap ∧ Same Zo s s') acc C) ao F.e hs ok k02 W hst hfp hwr hwl hP hk htest helt ?_
    intro D C h' tk m' ys N hD hC hDC hn hl hrd hkp
    have keep : ∀ b o, s.heap.get? b = some o → h'.get? b = some o := fun b o e => hkp b o (fun q => by rw [hwr b q] at e; cases e) (k02.k b o e)
    have notZ : ∀ a, s₂.heap.objs.size ≤ a → a ∉ Zo ++ Z := fun a ha hz => by
      obtain ⟨_, o, e⟩ := F.e.z a hz
      exact Nat.lt_irrefl _ (Nat.lt_of_lt_of_le (Heap.lt_size (k02.k a o e)) ha)
    have kp0 : Kp s { s₂ with heap := h', toks := tk } := ⟨by rw [k02.eq], keep⟩
    have hCs : s.heap.get? C = none := by
      cases q : s.heap.get? C with
      | none => rfl
      | some o => exact absurd (Heap.lt_size (k02.k C o q)) (Nat.not_lt.mpr hC)
    have hCb : hb.get? C = none := by
      cases q : hb.get? C with
      | none => rfl
      | some o => rw [F.kp C o q] at hCs; cases hCs
    obtain ⟨oC, hoC⟩ : ∃ o, h'.get? C = some o := by obtain ⟨o, _, _, e, _⟩ := hn; exact ⟨o, e⟩
    have hg : ∀ b ∈ [C], s.heap.get? b = none := fun b hb => by rw [List.mem_singleton.mp hb]; exact hCs
    have Fw : FIs w env Zo ([C] ++ Z) hb r h' := F.widen (Wl := [C]) keep (fun b hb => ⟨hg b hb, by rw [List.mem_singleton.mp hb]; exact ⟨oC, hoC⟩⟩) fun d v x => Rd.grow keep hg d v x
    have hCz : C ∉ Zo := fun q => notZ C hC (List.mem_append_left _ q)
    have hCZ : C ∉ Z := fun q => notZ C hC (List.mem_append_right _ q)
    have hDn : D ∉ Zo ++ ([C] ++ Z) := fun q => by
      simp only [List.mem_append, List.mem_singleton] at q
      rcases q with q | q | q
      · exact notZ D hD (List.mem_append_left _ q)
      · exact hDC q
      · exact notZ D hD (List.mem_append_right _ q)
    show wpAny _ A (assign (.Name x px) env (.ref D)) _ _ _
    refine wpAny_assign_Name (store_name (Z := [C] ++ Z) (s := { s₂ with heap := h', toks := tk }) Fw (d := .lst (((List.range k).filter p).map f)) ⟨D, ys, N, rfl, hDn, hl, hrd.mono (fun b o _ e => e) fun b hb => ?_⟩ hx fun s' F' e ez => ?_)
    · simp only [List.mem_append, List.mem_singleton] at hb
      simp only [List.mem_cons, List.mem_append]
      rcases hb with q | q | q
      · exact .inr (.inr (.inr (.inl q)))
      · exact .inl q
      · exact .inr (.inr (.inr (.inr q)))
    refine ⟨m', hn.at' fun o e => ez C o hCz e, fun h'' hs'' => ⟨.nxt, _, h, rfl, (F'.change (Wl := [C]) (Wk := []) (fun b o hb e => hs''.extBut b o (fun q => hb (by simp [q])) e) (fun b hb => ?_) (fun b hb => by cases hb) : FIs w env Zo ([] ++ Z) hb _ h''), ?_⟩⟩
    · rw [List.mem_singleton.mp hb]; exact ⟨hCz, hCZ, hCb⟩
    · have e1 : Same Zo s s' := kp0.same.trans e
      refine ⟨by show { s' with heap := h'' } = _; rw [e1.eq], fun b o hb' e' => hs''.extBut b o (fun q => by rw [q, hCs] at e'; cases e') (e1.k b o hb' e')⟩
end
section
variable {w : World} {n : Nat} {env : Env} {r : Rho} {os : Os} {P : Fl → Rho → Os → Prop} {rest : List Stmt}
theorem XM.asgComp {α β : Type} [Inhabited α] {y : Str} {py spos : Pos} {elt iter : Expr} {ifs : List Expr} {scope sc : Scope} {pos px : Pos} {x : Str} {its : List α} {g : α → D} {q : α → Bool} (hh : β → D) (f : α → β) (hs : env.scope = sc) (hv : Y w n env r (eval iter env) (.lst (its.map g))) (ok : okComp sc r scope [x] = true)
    (hsw : swapsWith (.ListComp elt [⟨.Name x px, iter, ifs, 0⟩] scope pos) (some (.Name y py)) spos.line env = pure true) (hy : KindOk env y)
    (hfold : ∀ x, foldedSetIterable iter env x = pure x) (hk : its.length ≤ sizeLine)
    (htest : ∀ a ∈ its, ∀ env', env'.scope = relabS sc scope → YT w n env' (rcomp scope r [x] [g a]) ifs (q a))
    (helt : ∀ a ∈ its, q a = true → ∀ env', env'.scope = relabS sc scope → Y w n env' (rcomp scope r [x] [g a]) (eval elt env') (hh (f a)))
    (h : XM w n env (rset r y (.lst (((its.filter q).map f).map hh))) os (execs rest env) P) :
    XM w n env r os (execs (.Assign [.Name y py] (.ListComp elt [⟨.Name x px, iter, ifs, 0⟩] scope pos) spos :: rest) env) P := by
  refine XM.seq (XM.ofX (Q := fun fl r' => fl = .nxt ∧ r' = rset r y (.lst (((its.filter q).map f).map hh))) ?_ fun fl r' ⟨e1, e2⟩ => by subst e1; subst e2; exact h)
  refine asgCompE (elt := elt) (ifs := ifs) (pos := pos) (p := fun i => q (its.getD i default)) (f := fun i => hh (f (its.getD i default))) hs (Src.ofV (x := x) (px := px) (SrcV.list hv)) ok hsw hy hfold (by rw [List.length_map]; exact hk)
    (fun i hi env' hs' => by
      rw [List.length_map] at hi
      rw [getD_map_lt hi]
      exact htest _ (getD_mem hi) env' hs')
    (fun i hi hp env' hs' => by
      rw [List.length_map] at hi
      rw [getD_map_lt hi]
      exact helt _ (getD_mem hi) hp env' hs') ⟨rfl, ?_⟩
  rw [List.length_map, range_fm its q (fun a => hh (f a)), List.map_map]
  rfl
theorem XM.ifNotE {x : Expr} {pos p2 : Pos} {body orelse : List Stmt} {P0 : Os → Prop} (hs : isTrue x env (eval x env) = (do let v ← eval x env; standAt x.pos; holding [v] (truthy v))) (hx : EM w n env r os (eval x env) (fun d os' => d = .bool true ∧ P0 os'))
    (h : ∀ os', P0 os' → XM w n env r os' (execs orelse env) (BehM w n env rest P)) : XM w n env r os (execs (.If (.UnaryOp .Not x p2) body orelse pos :: rest) env) P :=
  XM.seq fun A s Zo Z hb ao F => by
    refine wpAny_If (wpAny_isTrue_Not ?_)
    rw [hs]
    refine wpAny_bind (wpAny_mono (hx A s Zo Z hb ao F) (fun v s' hZ => ?_) fun _ _ e => e)
    obtain ⟨d, os', ⟨e1, hp⟩, rd, F', m⟩ := hZ
    subst e1
    cases rd
    refine wpAny_bind (wpAny_standAt (wpAny_holding (wpAny_truthy_bool ?_)))
    exact wpAny_mono (h os' hp A s' Zo Z hb ao F') (fun _ _ ⟨f, r', os'', p, q, F'', e⟩ => ⟨f, r', os'', p, q, F'', m.wide.trans e⟩) fun _ _ e => e
structure TabOk (ps : Array Value) (l : List (Nat × Nat)) : Prop where
  ex : ∃ cs : List Addr, cs.length = l.length ∧ ps.toList = (l.zip cs).flatMap fun q => [rawInt q.1.1, rawInt q.1.2, .ref q.2]
theorem tab_triples : ∀ {l : List (Nat × Nat)} {cs : List Addr}, cs.length = l.length → TriplesOk ((l.zip cs).flatMap fun q => [rawInt q.1.1, rawInt q.1.2, .ref q.2])
  | [], [], _ => trivial
  | p :: l, c :: cs, h => tab_triples (l := l) (cs := cs) (by simpa using h)
theorem tab_among {pos : Pos} : ∀ {l : List (Nat × Nat)} {cs : List Addr}, cs.length = l.length → (∀ p ∈ l, p ≠ (pos.line, pos.col)) → codeAmong pos ((l.zip cs).flatMap fun q => [rawInt q.1.1, rawInt q.1.2, .ref q.2]) = none
  | [], [], _, _ => rfl
  | p :: l, c :: cs, h, hn => by
    have ih := tab_among (pos := pos) (l := l) (cs := cs) (by simpa using h) fun q hq => hn q (.tail _ hq)
    have hp := hn p (.head _)
    simp only [List.zip_cons_cons, List.flatMap_cons, List.cons_append, List.nil_append, rawInt, codeAmong]
    have : ((p.1 : Int) == (pos.line : Int) && (p.2 : Int) == (pos.col : Int)) = false := by
      rw [Bool.and_eq_false_iff]
      by_cases c1 : p.1 = pos.line
      · refine .inr ?_
        rw [beq_eq_false_iff_ne]
        intro q
        exact hp (Prod.ext c1 (Int.ofNat.inj q))
      · refine .inl ?_
        rw [beq_eq_false_iff_ne]
        intro q
        exact c1 (Int.ofNat.inj q)
    rw [this]
    exact ih
theorem TabOk.nil : TabOk #[] [] := ⟨[], rfl, rfl⟩
theorem TabOk.snoc {ps : Array Value} {l : List (Nat × Nat)} (h : TabOk ps l) (a b : Nat) (c : Addr) : TabOk (ps ++ #[rawInt a, rawInt b, .ref c]) (l ++ [(a, b)]) := by
  obtain ⟨cs, h1, h2⟩ := h
  refine ⟨cs ++ [c], by simp [h1], ?_⟩
  rw [Array.toList_append, h2, List.zip_append h1.symm, List.flatMap_append]
  rfl
theorem call_fnMC {w : World} {n : Nat} {f : Addr} {ps : List Str} {name qual : Str} {params : Arguments} {body : List Stmt} {scope : Scope} {dV kV doc pm cdv ct oc : Value} {an od : Option Addr} {osl : Array (Option Value)} {ds : List D} {os : Os} {Pd : D → Os → Prop}
    (hK : (KK w).lookup f = some ⟨oc, od, .func (fnOf name qual params body scope dV kV doc pm an cdv ct), osl⟩) (hcode : codeIn (KK w) cdv qual = true) (hok : okDef scope ps = true)
    (hbind : ∀ vs : List Value, vs.length = ds.length → bindArgs (fnOf name qual params body scope dV kV doc pm an cdv ct) ⟨vs, []⟩ = pure (ps.zip vs))
    (h : ∀ env, env.scope = scope → env.code = cdv → XM w n env (rargs ps ds) os (execs body env) (fun f _ os' => (∃ d, f = .ret d ∧ Pd d os') ∨ (f = .nxt ∧ Pd .none os'))) : CallM w (n + 1) f ds os Pd := fun A s Z hb vs ao pre rd => by
  simp only [okDef, Bool.and_eq_true, Bool.not_eq_true', decide_eq_true_eq, List.all_eq_true, Bool.or_eq_true] at hok
  obtain ⟨⟨⟨⟨⟨h1, h2⟩, h3⟩, h4⟩, h5⟩, h6⟩ := hok
  refine codeAny_call_cells (fd := fnOf name qual params body scope dV kV doc pm an cdv ct) (body := body) (binds := ps.zip vs) (by have := ao.dp; apply Ar.b6 <;> assumption) (pre.W.k _ _ hK) rfl pre.W.lim (codeRec_of pre.W.k hcode) rfl (hbind vs rd.len) rfl ?_ (fun s₁ x => ?_) h1 h2 h3
  · intro p hp
    have := h5 p.1 (List.of_mem_zip hp).1
    exact this.imp id fun e => ⟨e, cell_some e⟩
  · exact wpAny_mono (body_ofM (fd := fnOf name qual params body scope dV kV doc pm an cdv ct) rfl rfl h6 h3 (fun p hp => by simpa using h4 p hp) h ao pre rd x) (fun fl s' q => q) fun _ _ e => e.elim
structure BmOk (ob : Obj) : Prop where
  cls : ob.cls = .type "module"
  dict : ob.dict = some builtinsNs
  data : ob.data = Data.plain
theorem bmIn : nsIn (KK w) mainGlobals "__builtins__" = some (some (.ref 4)) := by kernel_rfl
theorem EM.callL {x : Str} {p pos lpos : Pos} {params : Arguments} {body : Expr} {scope : Scope} {more : List Expr} {f c tb : Addr} {y : Str} {dy : D} {p1 p2 : Str} {ds : List D} {b : Bool} {ps : Array Value} {l : List (Nat × Nat)} {pre post : Os} {ob : Obj} {P0 : D → Os → Prop}
    (hpl : (backTo pos (starEach (.Lambda params body scope lpos :: more) env)).any (·.1) = false) (hf : Y w n env r (eval (.Name x p) env) (.fn f)) (hk : keepIn (KK w) (.ref f) = true)
    (he : starEach (.Lambda params body scope lpos :: more) env = (false, eval (.Lambda params body scope lpos) env) :: starEach more env)
    (hdef : defaultsOf params env = ([], [])) (hclo : clo env scope.names [] = [(y, (env.cells.lookup y).getD 0)]) (hfr : ∀ q ∈ scope.names, q.2 = .free → q.1 = y) (hy : env.kindOf y = some .cell) (hr : r y = some dy)
    (hcode : env.code = .ref c) (hC : codeHdIn (KK w) c tb = true) (hT : TabOk ps l) (hl : ∀ q ∈ l, q ≠ (lpos.line, lpos.col)) (hos : os = pre ++ (tb, .raw (tabObj ps)) :: post) (hob : (4, Ow.raw ob) ∈ os) (hB : BmOk ob) (h4 : (4 : Addr) ≠ tb)
    (hbind : ∀ (qual : Str) (cl : List (Str × Addr)) (pm cdv ctv : Value) (vs : List Value), vs.length = 2 → bindArgs (kla_fn "<lambda>" qual params body scope cl pm cdv ctv) ⟨vs, []⟩ = pure ([p1, p2].zip vs))
    (ha : Ys w n env r (spliced (backTo pos (starEach more env))) ds) (hc : CallOK w n f (.lam body scope [p1, p2] y dy :: ds) (.bool b))
    (hp : ∀ ps', TabOk ps' (l ++ [(lpos.line, lpos.col)]) → P0 (.bool b) (pre ++ (tb, .raw (tabObj ps')) :: post)) :
    EM w n env r os (eval (.Call (.Name x p) (.Lambda params body scope lpos :: more) [] pos) env) P0 := fun A s Zo Z hb ao F => by
  subst hos
  refine wpAny_Call_Name_kw (wpAny_mono (hf A s _ ao F.fi.e) (fun v s₁ hZ => ?_) fun _ _ e => e)
  obtain ⟨k1, rf⟩ := hZ
  cases rf
  have F1 := F.keeps k1.k
  refine callWith_of (P := fun h => (KK w).In h) (by rw [hpl]; rfl) (keeps_K hk) ?_
  suffices this : wpAny (MM w) A (spliced (backTo pos (starEach (.Lambda params body scope lpos :: more) env))) (fun vs s' => (KK w).In s'.heap ∧ wpAny (MM w) A (call (.ref f) vs []) (fun v s' => ∃ d os', P0 d os' ∧ Rd w s'.heap (Zo ++ (places os' ++ Z)) d v ∧ FIm w env Zo Z hb r os' s'.heap ∧ SameM [] (pre ++ (tb, Ow.raw (tabObj ps)) :: post) os' s s') NoE s') NoE s₁ by
    rw [he] at this ⊢
    exact evalArgs_plain this
  refine wpAny_items_cons ?_ he
  have W1 := F1.fi.e.wd
  obtain ⟨mg, G⟩ := W1.g
  obtain ⟨cy, v0, cl1, cl2, cl3⟩ := F1.fi.e.cl y dy hr (.inl hy)
  obtain ⟨cy', v0', cm1, cm2, cm3, cm4⟩ := F1.fi.cells y hy
  rw [cl1] at cm1; cases cm1
  have hclos : closureFor scope env = pure [(y, cy)] := by
    rw [closure_eq fun q hq hqf => ⟨cy, by rw [hfr q hq hqf]; exact cl1⟩, hclo, cl1]; rfl
  have g4 : s₁.heap.get? 4 = some ob := F1.ow _ hob
  have gP : s₁.heap.get? tb = some (tabObj ps) := F1.ow _ (in_mid pre post (tb, Ow.raw (tabObj ps)))
  obtain ⟨cs, hcl, hps⟩ := hT.ex
  have hns : ∀ b m, s₁.heap.Ns b m → b ≠ tb := fun b m h q => by
    obtain ⟨o, es, ep, e, hd, _⟩ := h
    rw [q, gP] at e; cases e; cases hd
  have CH := codeHd_of_K W1.k hC
  refine kla_eval hdef (kla_makeFunction (mg := mg) hclos F1.fi.e.gl G hcode CH gP (by rw [hps]; exact tab_triples hcl) (by rw [hps]; exact tab_among hcl hl) (hns _ _ G)
    ⟨4, ob, mg_of W1.k G bmIn, by decide, by decide, h4, g4, hB.cls, hB.dict, hB.data⟩ fun c' ctv h' tk hx hge hlt hrec htb => ?_)
  obtain ⟨c2, oc, vsc, tq, hc2, hoc, hdc, hq⟩ := hrec
  cases hc2
  generalize hfo : kla_obj "<lambda>" (env.qual ++ "<lambda>") params body scope [(y, cy)] ((mg "__name__").getD .none) c' ctv = fo
  have ps' := hT.snoc lpos.line lpos.col c'
  have kk : ∀ b o, b ∉ [tb] → s₁.heap.get? b = some o → (h'.push fo).get? b = some o := fun b o hb e => Heap.get?_push_of_some _ (hx b o (by simpa using hb) e)
  have gP' : (h'.push fo).get? tb = some (tabObj (ps ++ #[rawInt lpos.line, rawInt lpos.col, .ref c'])) := Heap.get?_push_of_some _ htb
  obtain ⟨F2, m2⟩ := FIm.set (s := s₁) (s' := { s₁ with heap := h'.push fo, toks := tk }) (ch := [tb]) (o' := .raw (tabObj (ps ++ #[rawInt lpos.line, rawInt lpos.col, .ref c']))) F1 rfl (fun b hb => by rw [List.mem_singleton.mp hb]; exact ⟨by simp [placesOf], _, gP'⟩) kk rfl gP'
  have gF : (h'.push fo).get? h'.objs.size = some fo := Heap.get?_push_size _ (by rw [← hfo]; rfl)
  refine wpAny_mono (ha A { s₁ with heap := h'.push fo, toks := tk } _ ao F2.fi.e) (fun vs s₃ hZ => ?_) fun _ _ e => e
  obtain ⟨k3, rds⟩ := hZ
  have F3 := F2.keeps k3.k
  have hcy : cy ∉ [tb] := fun q => by
    rw [List.mem_singleton] at q
    exact (F1.dj tb (placesOf_sub (in_mid pre post (tb, Ow.raw (tabObj ps))) tb (by simp [placesOf]))).1 (q ▸ cm3)
  have rlam : Rd w s₃.heap [] (.lam body scope [p1, p2] y dy) (.ref h'.objs.size) := by
    obtain ⟨co, ce1, ce2⟩ := cl2
    refine ⟨h'.objs.size, cy, v0, rfl, by simp, by simp, ⟨_, _, k3.k _ _ gF, by rw [← hfo], rfl, rfl, rfl, rfl, rfl, ?_, c', oc, vsc, tq, rfl, by simp, k3.k _ _ (Heap.get?_push_of_some _ hoc), hdc, hq⟩, ⟨co, k3.k _ _ (kk _ _ hcy ce1), ce2⟩, ?_⟩
    · intro us hus
      exact hbind _ _ _ _ _ us hus
    · refine cl3.mono (h' := s₃.heap) (Z' := []) (fun b o hb e => k3.k _ _ (kk b o (fun q => hb ?_) e)) fun b hb => by cases hb
      rw [List.mem_singleton.mp q]
      exact List.mem_append_right _ (List.mem_append_left _ (placesOf_sub (in_mid pre post (tb, Ow.raw (tabObj ps))) tb (by simp [placesOf])))
  refine ⟨F3.fi.e.wd.k, wpAny_call (codeAny_mono (hc A s₃ [] (.ref h'.objs.size :: vs) ao F3.fi.e.wd (fun z hz => by cases hz) ⟨_, _, rfl, rlam, rds.less fun b hb => by cases hb⟩) fun res s₄ hZ => ?_)⟩
  obtain ⟨v, e, k4, rv⟩ := hZ
  subst e
  cases rv
  exact ⟨.bool b, _, hp _ ps', rfl, F3.keeps k4.k, k1.sameM.trans ((m2 []).trans (k3.trans k4).sameM)⟩
end
end Uni
namespace Uni
structure DeckOk (ls : List Int) (mx : Int) : Prop where
  len : ls.length ≤ 24
  lo : 0 ≤ mx
  hi : mx < 1000003
noncomputable def nm (t : Nat) : Str := (["gcb", "incb", "ep", "wb", "sb"] : List Str).getD t ""
theorem nm_inj : ∀ t < 5, ∀ j < 5, nm t = nm j → t = j := by decide
noncomputable def Vs (rows : List Row) (near far : List Str) (t i : Nat) : D := match t with
  | 0 => .str (rows.getD i default).1
  | 1 => .str (rows.getD i default).2.1
  | 2 => .bool (rows.getD i default).2.2
  | 3 => .str (near.getD i "")
  | _ => .str (far.getD i "")
noncomputable def dfs (t : Nat) : D := match t with
  | 1 => .str "None"
  | 2 => .bool false
  | _ => .str "Other"
theorem df0 : dfOf "gcb" = .str "Other" := by kernel_rfl
theorem df1 : dfOf "incb" = .str "None" := by kernel_rfl
theorem df2 : dfOf "ep" = .bool false := by kernel_rfl
theorem df3 : dfOf "wb" = .str "Other" := by kernel_rfl
theorem df4 : dfOf "sb" = .str "Other" := by kernel_rfl
theorem df_nm : ∀ t, t < 5 → dfOf (nm t) = dfs t
  | 0, _ => df0
  | 1, _ => df1
  | 2, _ => df2
  | 3, _ => df3
  | 4, _ => df4
  | t + 5, h => absurd h (by lia)
theorem Vs_same (rows : List Row) (near far : List Str) (i : Nat) : ∀ t, t < 5 → SameK (dfOf (nm t)) (Vs rows near far t i)
  | 0, h => by rw [df_nm _ h]; exact .str _ _
  | 1, h => by rw [df_nm _ h]; exact .str _ _
  | 2, h => by rw [df_nm _ h]; exact .bool _ _
  | 3, h => by rw [df_nm _ h]; exact .str _ _
  | 4, h => by rw [df_nm _ h]; exact .str _ _
  | t + 5, h => absurd h (by lia)
theorem SameK.trans {a b c : D} (h : SameK a b) (g : SameK b c) : SameK a c := by cases h <;> cases g <;> constructor
theorem SameK.symm {a b : D} (h : SameK a b) : SameK b a := by cases h <;> constructor
noncomputable def cnt (k j t : Nat) : Nat := if t < j then k + 1 else k
structure DG (m : Rm) (df : D) (vals : Nat → D) (c : Nat) : Prop where
  ok : RmOk m
  len : m.st.length ≤ 1 + 2 * c
  va : ∀ u ∈ m.va, SameK u df
  get : ∀ i, i < c → m.get (97 + (i : Int)) = some (vals i)
structure DI (ms : List (Str × Rm)) (V : Nat → Nat → D) (k j : Nat) : Prop where
  nd : (ms.map (·.1)).Nodup
  len : ms.length ≤ 5 * k + j
  g : ∀ t, t < 5 → DG (getM ms (nm t)) (dfOf (nm t)) (V t) (cnt k j t)
  has : ∀ t, t < 5 → 0 < cnt k j t → (ms.lookup (nm t)).isSome = true
theorem rm0_ok (x : Str) : RmOk (rm0 x) := ⟨by simp [rm0], rfl, rfl, Nat.le_of_ble_eq_true rfl⟩
theorem DI.init (V : Nat → Nat → D) : DI [] V 0 0 := by
  refine ⟨List.nodup_nil, Nat.le_refl _, fun t ht => ?_, fun t ht h => ?_⟩
  · have e : getM [] (nm t) = rm0 (nm t) := rfl
    rw [e]
    refine ⟨rm0_ok _, Nat.le_of_ble_eq_true rfl, fun u hu => ?_, fun i hi => ?_⟩
    · have : u = dfOf (nm t) := by simpa [rm0] using hu
      subst this
      exact (Vs_same [] [] [] 0 t ht).trans (Vs_same [] [] [] 0 t ht).symm
    · unfold cnt at hi; simp at hi
  · unfold cnt at h; simp at h
theorem DI.congr {ms : List (Str × Rm)} {V V' : Nat → Nat → D} {k : Nat} (h : DI ms V k 0) (e : ∀ t i, i < k → V t i = V' t i) : DI ms V' k 0 :=
  ⟨h.nd, h.len, fun t ht => ⟨(h.g t ht).ok, (h.g t ht).len, (h.g t ht).va, fun i hi => by
    have hi' : i < k := by unfold cnt at hi; simpa using hi
    rw [← e t i hi']; exact (h.g t ht).get i hi⟩, h.has⟩
theorem DI.next {ms : List (Str × Rm)} {V : Nat → Nat → D} {k : Nat} (h : DI ms V k 5) : DI ms V (k + 1) 0 := by
  have e : ∀ t, t < 5 → cnt k 5 t = cnt (k + 1) 0 t := fun t ht => by unfold cnt; rw [if_pos ht, if_neg (by lia)]
  refine ⟨h.nd, by have := h.len; lia, fun t ht => ?_, fun t ht => ?_⟩
  · rw [← e t ht]; exact h.g t ht
  · rw [← e t ht]; exact h.has t ht
theorem DI.step {ms ms' : List (Str × Rm)} {V : Nat → Nat → D} {k j : Nat} (h : DI ms V k j) (hj : j < 5) (hk : k ≤ 100) (hv : SameK (dfOf (nm j)) (V j k)) (p : PutR ms ms' (nm j) (97 + (k : Int)) (97 + (k : Int)) (V j k)) : DI ms' V k (j + 1) := by
  have hc : cnt k j j = k := by unfold cnt; rw [if_neg (by lia)]
  have hc1 : cnt k (j + 1) j = k + 1 := by unfold cnt; rw [if_pos (by lia)]
  have hco : ∀ t, t ≠ j → cnt k (j + 1) t = cnt k j t := fun t ht => by
    unfold cnt
    by_cases c : t < j
    · rw [if_pos c, if_pos (by apply Ar.ls <;> assumption)]
    · rw [if_neg c, if_neg (by lia)]
  refine ⟨p.nd, by have := p.len; have := h.len; lia, fun t ht => ?_, fun t ht hp => ?_⟩
  · by_cases c : t = j
    · subst c
      have g := h.g t ht
      rw [hc] at g
      have e : getM ms' (nm t) = rput (getM ms (nm t)) (97 + (k : Int)) (97 + (k : Int)) (V t k) := by
        rw [getM, p.hit]; rfl
      have rg := rput_good g.ok (f := 97 + (k : Int)) (l := 97 + (k : Int)) (v := V t k) (by exact Ar.n9) (by lia) (by lia) (fun u hu => (g.va u hu).trans hv) (by have := g.len; lia)
      rw [e, hc1]
      refine ⟨rg.ok, by have := rg.len; have := g.len; lia, fun u hu => (rg.va u hu).trans hv.symm, fun i hi => ?_⟩
      rw [rg.get _ (by exact Ar.n9)]
      by_cases ci : i = k
      · subst ci; rw [if_pos (by lia)]
      · rw [if_neg (by lia)]; exact g.get i (by apply Ar.q2 <;> assumption)
    · have hne : nm t ≠ nm j := fun q => c (nm_inj t ht j hj q)
      have e : getM ms' (nm t) = getM ms (nm t) := by rw [getM, p.off _ hne]; rfl
      rw [e, hco t c]; exact h.g t ht
  · by_cases c : t = j
    · subst c; rw [p.hit]; rfl
    · have hne : nm t ≠ nm j := fun q => c (nm_inj t ht j hj q)
      rw [p.off _ hne]
      rw [hco t c] at hp
      exact h.has t ht hp
structure LoopOk (rows : List Row) (near far : List Str) (L : List RmE) (i : Nat) : Prop where
  lr : rows.length = i
  ln : near.length = i
  lf : far.length = i
  mr : ∀ r ∈ rows, r ∈ menuC
  mn : ∀ x ∈ near, x ∈ menuW
  mf : ∀ x ∈ far, x ∈ menuS
  d : DI (msOf L) (Vs rows near far) i 0
noncomputable def pageOf (i : Nat) : List Int := (List.range i).map fun j : Nat => 97 + (j : Int)
noncomputable abbrev lawR (pg fa nr rw x dx ma : Addr) (rows : List Row) (near far : List Str) (page : List Int) (L : List RmE) (base : Os) : Os :=
  (pg, .lst (page.map .int)) :: (fa, .lst (far.map .str)) :: (nr, .lst (near.map .str)) :: (rw, .lst (rows.map rowD)) :: (dOs x dx ma L ++ base)
noncomputable abbrev RL (dk x rw nr fa pg : Addr) : List (Str × D) := [("deck", .own dk), ("data", .own x), ("rows", .own rw), ("near", .own nr), ("far", .own fa), ("page", .own pg)]
theorem menu_pick {α : Type} (l : List α) (g : α → D) {v : Int} (h0 : 0 ≤ v) (h : v < l.length) : ∃ c ∈ l, (l.map g)[v.toNat]? = some (g c) :=
  ⟨l[v.toNat]'(by apply Ar.b1 <;> assumption), List.getElem_mem _, by rw [List.getElem?_map, List.getElem?_eq_getElem (by apply Ar.b1 <;> assumption)]; rfl⟩
section
variable {w : World} {n : Nat} {env : Env} {r : Rho} {os : Os} {P : Fl → Rho → Os → Prop} {rest : List Stmt}
theorem law_draw {p pos : Pos} {args : List Expr} {many : Int} {dk lf : Addr} {ls : List Int} {mx : Int} {R : Os} (hpl : (backTo pos (starEach args env)).any (·.1) = false) (hf : Y w (n + 2) env r (eval (.Name "_law_draw" p) env) (.fn 475))
    (ha : Ys w (n + 2) env r (spliced (backTo pos (starEach args env))) [.own dk, .int many]) (hne : ArgsOk env args [.own dk, .int many]) (hm : 0 < many) (hk : DeckOk ls mx) :
    EM w (n + 2) env r (deckO dk lf ls mx ++ R) (eval (.Call (.Name "_law_draw" p) args [] pos) env) (fun d os1 => ∃ v ls' mx', d = .int v ∧ 0 ≤ v ∧ v < many ∧ DeckOk ls' mx' ∧ os1 = deckO dk lf ls' mx' ++ R) :=
  EM.callN (pre := []) (os1 := deckO dk lf ls mx) (post := R) hpl hf rfl ha hne rfl (draw_ok (n := n) hm hk.len hk.lo hk.hi) (fun d os2 ⟨v, ls', mx', e1, e2, e3, e4, e5, e6, e7⟩ => ⟨v, ls', mx', e1, e2, e3, ⟨e5, e6, e7⟩, by rw [e4]; rfl⟩)
noncomputable abbrev EQ (d : D) (os : Os) : D → Os → Prop := fun d' os' => d' = d ∧ os' = os
theorem EMs.nilQ {pos : Pos} : EMs w n env r os (spliced (backTo pos (starEach [] env))) (fun ds o => ds = [] ∧ o = os) := EMs.nil ⟨rfl, rfl⟩
theorem EMs.consQ {pos : Pos} {e : Expr} {more : List Expr} {d : D} {ds : List D} (he : starEach (e :: more) env = (false, eval e env) :: starEach more env) (hd : EM w n env r os (eval e env) (EQ d os)) (hr : EMs w n env r os (spliced (backTo pos (starEach more env))) (fun ds' o => ds' = ds ∧ o = os)) :
    EMs w n env r os (spliced (backTo pos (starEach (e :: more) env))) (fun ds' o => ds' = d :: ds ∧ o = os) :=
  EMs.cons he hd fun d' o ⟨e1, e2⟩ => by
    subst e1; subst e2
    exact EMs.mono hr fun ds' o ⟨e3, e4⟩ => ⟨by rw [e3], e4⟩
theorem EM.tupleQ {elts : List Expr} {k : Nat} {pos : Pos} {ds : List D} (h : EMs w n env r os (spliced (backTo pos (starEach elts env))) (fun ds' o => ds' = ds ∧ o = os)) (hl : ds.length ≤ sizeLine) : EM w n env r os (eval (.Tuple elts k pos) env) (EQ (.tup ds) os) :=
  EM.tuple h fun ds' o ⟨e1, e2⟩ => ⟨by rw [e1]; exact hl, by rw [e1], e2⟩
theorem EM.listQ {elts : List Expr} {pos : Pos} {ds : List D} (h : EMs w n env r os (spliced (backTo pos (starEach elts env))) (fun ds' o => ds' = ds ∧ o = os)) (hl : ds.length ≤ sizeLine) : EM w n env r os (eval (.List elts pos) env) (EQ (.lst ds) os) :=
  EM.list h fun ds' o ⟨e1, e2⟩ => ⟨by rw [e1]; exact hl, by rw [e1], e2⟩
theorem EM.yQ {e : Expr} {d : D} (h : Y w n env r (eval e env) d) : EM w n env r os (eval e env) (EQ d os) := EM.ofY h ⟨rfl, rfl⟩
theorem EM.ymQ {e : Expr} {d : D} (h : YM w n env r os (eval e env) d) : EM w n env r os (eval e env) (EQ d os) := EM.of h ⟨rfl, rfl⟩
theorem EM.nilO {pos : Pos} {P0 : D → Os → Prop} (h : ∀ a, P0 (.own a) ((a, .lst []) :: os)) : EM w n env r os (eval (.List [] pos) env) P0 :=
  EM.listO (P1 := fun ds os1 => ds = [] ∧ os1 = os) EMs.nilQ fun ds os1 a ⟨e1, e2⟩ => by
    subst e1; subst e2
    exact ⟨by rw [sizeLine_eq]; exact Nat.le_of_ble_eq_true rfl, h a⟩
theorem EM.four {p1 p2 p3 p4 pos : Pos} {k : Nat} {P0 : D → Os → Prop} (h : ∀ a b c d, P0 (.tup [.own a, .own b, .own c, .own d]) ((d, .lst []) :: (c, .lst []) :: (b, .lst []) :: (a, .lst []) :: os)) : EM w n env r os (eval (.Tuple [.List [] p1, .List [] p2, .List [] p3, .List [] p4] k pos) env) P0 :=
  EM.tuple (P1 := fun ds os1 => ∃ a b c d, ds = [.own a, .own b, .own c, .own d] ∧ os1 = (d, .lst []) :: (c, .lst []) :: (b, .lst []) :: (a, .lst []) :: os)
    (EMs.cons (P0 := fun x os1 => ∃ a, x = .own a ∧ os1 = (a, .lst []) :: os) rfl (EM.nilO fun a => ⟨a, rfl, rfl⟩) fun x os1 hZ => by
      obtain ⟨a, e1, e2⟩ := hZ
      subst e1; subst e2
      exact EMs.cons (P0 := fun x os1 => ∃ b, x = .own b ∧ os1 = (b, .lst []) :: (a, .lst []) :: os) rfl (EM.nilO fun a => ⟨a, rfl, rfl⟩) fun x os1 hZ => by
        obtain ⟨b, e1, e2⟩ := hZ
        subst e1; subst e2
        exact EMs.cons (P0 := fun x os1 => ∃ c, x = .own c ∧ os1 = (c, .lst []) :: (b, .lst []) :: (a, .lst []) :: os) rfl (EM.nilO fun a => ⟨a, rfl, rfl⟩) fun x os1 hZ => by
          obtain ⟨c, e1, e2⟩ := hZ
          subst e1; subst e2
          exact EMs.cons (P0 := fun x os1 => ∃ d, x = .own d ∧ os1 = (d, .lst []) :: (c, .lst []) :: (b, .lst []) :: (a, .lst []) :: os) rfl (EM.nilO fun a => ⟨a, rfl, rfl⟩) fun x os1 ⟨d, e1, e2⟩ => EMs.nil ⟨a, b, c, d, by rw [e1], e2⟩)
    fun ds os1 hZ => by
      obtain ⟨a, b, c, d, e1, e2⟩ := hZ
      subst e1; subst e2
      exact ⟨by rw [sizeLine_eq]; exact Nat.le_of_ble_eq_true rfl, h a b c d⟩
theorem YM.one {t : Sem Value} {a : Addr} {o : Ow} {pre post : Os} {r' : Rho} {d : D} (hos : os = pre ++ (a, o) :: post) (hr : FrzR [(a, o)] r r') (hs : Scal d = true) (h : Y w n env r' t d) : YM w n env r os t d := by
  subst hos
  exact YM.permu List.perm_middle (YM.borrow (fz := [(a, o)]) (more := pre ++ post) rfl hr hs h)
end
end Uni
namespace Uni
noncomputable def gsC : List Str := ["Other", "Extend", "ZWJ", "Regional_Indicator", "Prepend", "SpacingMark", "L", "V", "T", "LV", "LVT", "CR", "LF", "Control"]
noncomputable def cpairL (a b : Str) : Option Bool :=
  if a == "CR" && b == "LF" then some false
  else if isIn LCE a || isIn LCE b then some true
  else if (a == "L" && isIn ["L", "V", "LV", "LVT"] b) || (isIn ["LV", "V"] a && isIn ["V", "T"] b) then some false
  else if isIn ["LVT", "T"] a && b == "T" then some false
  else if isIn ["Extend", "ZWJ", "SpacingMark"] b || a == "Prepend" then some false
  else none
theorem cpair_eq : ∀ a ∈ gsC, ∀ b ∈ gsC, cpair a b false = cpairL a b := by decide +kernel
theorem menuC_g : ∀ r ∈ menuC, r.1 ∈ gsC := by decide +kernel
theorem menuC_end : ∀ r ∈ menuC, isIn CEnds r.1 = true → r.2.1 = "None" ∧ r.2.2 = false := by decide +kernel
theorem menuC_pic : ∀ r ∈ menuC, r.2.2 = true → r.1 = "Other" := by decide +kernel
theorem conjGo_eq (f : Int → Str) : ∀ (l : List Int) (hl : Bool), conjGo f l hl = (decide (((l.map f).takeWhile (isIn ["Linker", "Extend"] ·)).length < l.length) &&
    ((l.map f).getD ((l.map f).takeWhile (isIn ["Linker", "Extend"] ·)).length default == "Consonant" && (hl || isIn ((l.map f).take ((l.map f).takeWhile (isIn ["Linker", "Extend"] ·)).length) "Linker")))
  | [], hl => rfl
  | c :: r, hl => by
    have ih := conjGo_eq f r
    rw [conjGo, List.map_cons, List.takeWhile_cons]
    generalize f c = x
    by_cases h1 : x = "Consonant"
    · subst h1
      have e : isIn ["Linker", "Extend"] ("Consonant" : Str) = false := by decide
      rw [e]
      simp [isIn]
    · have h1' : (x == "Consonant") = false := by simpa using h1
      rw [h1']
      by_cases h2 : isIn ["Linker", "Extend"] x = true
      · have h2' : CJoints.any (· == x) = true := by
          simp only [isIn, List.any_cons, List.any_nil, Bool.or_false, Bool.or_eq_true] at h2 ⊢
          exact h2.symm
        rw [if_neg (by decide), if_pos h2', if_pos h2, ih]
        simp only [List.length_cons, Nat.add_lt_add_iff_right, List.take_succ_cons, List.getD_cons_succ]
        have : isIn (x :: (r.map f).take ((r.map f).takeWhile (isIn ["Linker", "Extend"] ·)).length) "Linker" = (x == "Linker" || isIn ((r.map f).take ((r.map f).takeWhile (isIn ["Linker", "Extend"] ·)).length) "Linker") := by simp [isIn]
        rw [this, Bool.or_assoc]
      · have h2' : CJoints.any (· == x) = false := by
          rw [← Bool.not_eq_true]
          intro q
          apply h2
          simp only [isIn, List.any_cons, List.any_nil, Bool.or_false, Bool.or_eq_true] at q ⊢
          exact q.symm
        rw [if_neg (by decide), h2', if_neg (by decide), if_neg h2]
        simp only [List.length_nil, List.getD_cons_zero, h1', Bool.false_and, Bool.and_false]
theorem getD_drop_takeWhile {α : Type} (p : α → Bool) (d : α) : ∀ l : List α, l.dropWhile p = [] ∧ (l.takeWhile p).length = l.length ∨ ∃ t, l.dropWhile p = l.getD (l.takeWhile p).length d :: t ∧ (l.takeWhile p).length < l.length
  | [] => .inl ⟨rfl, rfl⟩
  | a :: l => by
    rw [List.dropWhile_cons, List.takeWhile_cons]
    by_cases h : p a = true
    · rw [if_pos h, if_pos h]
      rcases getD_drop_takeWhile p d l with ⟨h1, h2⟩ | ⟨t, h1, h2⟩
      · exact .inl ⟨h1, by simp [h2]⟩
      · exact .inr ⟨t, by simpa using h1, by simpa using h2⟩
    · rw [if_neg h, if_neg h]
      exact .inr ⟨l, rfl, by simp⟩
theorem picGo_eq (T : Tb) (l : List Int) : picGo T l = (decide ((l.takeWhile (fun c => gk T c == "Extend")).length < l.length) && (T.cl (l.getD (l.takeWhile (fun c => gk T c == "Extend")).length default)).e) := by
  unfold picGo
  rcases getD_drop_takeWhile (fun c => gk T c == "Extend") default l with ⟨h1, h2⟩ | ⟨t, h1, h2⟩
  · rw [h1, h2]; simp
  · rw [h1]; simp [h2]
theorem takeWhile_map_len {α : Type} (f : α → Str) (x : Str) : ∀ l : List α, ((l.map f).takeWhile (· == x)).length = (l.takeWhile (fun c => f c == x)).length
  | [] => rfl
  | a :: l => by
    rw [List.map_cons, List.takeWhile_cons, List.takeWhile_cons]
    by_cases h : (f a == x) = true
    · rw [if_pos h, if_pos h, List.length_cons, List.length_cons, takeWhile_map_len f x l]
    · rw [if_neg h, if_neg h]; rfl
noncomputable def rowOf (T : Tb) (c : Int) : Row := ((T.cl c).g, (T.cl c).i, (T.cl c).e)
noncomputable def rowsOf (T : Tb) (cs : List Int) : List Row := cs.map (rowOf T)
theorem rowsOf_at {T : Tb} {cs : List Int} {k : Nat} (h : k < cs.length) : (rowsOf T cs).getD k default = rowOf T (cs.getD k default) := by
  unfold rowsOf
  rw [List.getD_eq_getElem?_getD, List.getElem?_map, List.getElem?_eq_getElem h, List.getD_eq_getElem?_getD, List.getElem?_eq_getElem h]; rfl
theorem lawC_eq (rows : List Row) (i : Nat) : lawC rows i = (cpairL (rows.getD (i - 1) default).1 (rows.getD i default).1).getD
    (if (rows.getD i default).2.1 == "Consonant" && (decide (((linksR rows i).takeWhile (isIn ["Linker", "Extend"] ·)).length < i) &&
      ((linksR rows i).getD ((linksR rows i).takeWhile (isIn ["Linker", "Extend"] ·)).length default == "Consonant" && isIn ((linksR rows i).take ((linksR rows i).takeWhile (isIn ["Linker", "Extend"] ·)).length) "Linker")) then false
  else if ((rows.getD (i - 1) default).1 == "ZWJ" && (rows.getD i default).2.2) && (decide (1 + countW "Extend" ((backR rows i).drop 1) < i) && (rows.getD (i - 1 - (1 + countW "Extend" ((backR rows i).drop 1))) default).2.2) then false
  else !((rows.getD i default).1 == "Regional_Indicator" && countW (rows.getD i default).1 (backR rows i) % 2 == 1)) := by
  unfold lawC cpairL
  split
  · rfl
  split
  · rfl
  split
  · rfl
  split
  · rfl
  split
  · rfl
  rfl
theorem cluster_law {T : Tb} {cs : List Int} (hm : ∀ c ∈ cs, rowOf T c ∈ menuC) {k : Nat} (h1 : 1 ≤ k) (hk : k < cs.length) : cbreak T cs k = lawC (rowsOf T cs) k := by
  have mem : ∀ j, j < cs.length → rowOf T (cs.getD j default) ∈ menuC := fun j hj => hm _ (by
    rw [List.getD_eq_getElem?_getD, List.getElem?_eq_getElem hj]; exact List.getElem_mem hj)
  have ha := menuC_g _ (mem (k - 1) (Nat.lt_of_le_of_lt (Nat.sub_le k 1) hk))
  have hb := menuC_g _ (mem k hk)
  rw [lawC_eq, rowsOf_at hk, rowsOf_at (Nat.lt_of_le_of_lt (Nat.sub_le k 1) hk : k - 1 < cs.length)]
  have hc : (k == 0 || k == cs.length) = false := by simp; apply Ar.ne <;> assumption
  unfold cbreak
  rw [hc]
  simp only [Bool.false_eq_true, if_false]
  have hlinks : linksR (rowsOf T cs) k = ((cs.take k).reverse.map fun c => (T.cl c).i) := by
    unfold linksR rowsOf
    rw [← List.map_take, List.map_map, ← List.map_reverse]; rfl
  have hback : backR (rowsOf T cs) k = ((cs.take k).reverse.map (gk T)) := by
    unfold backR rowsOf
    rw [← List.map_take, List.map_map, ← List.map_reverse]; rfl
  have hlen : (cs.take k).reverse.length = k := by rw [List.length_reverse, List.length_take]; exact Nat.min_eq_left (Nat.le_of_lt hk)
  have hdrop : (cs.take k).reverse.drop 1 = (cs.take (k - 1)).reverse := by
    obtain ⟨j, rfl⟩ : ∃ j, k = j + 1 := ⟨k - 1, (Nat.sub_add_cancel h1).symm⟩
    rw [take_rev_succ cs j (Nat.lt_of_succ_lt hk)]; rfl
  have hconj : conj T cs k = ((rowOf T (cs.getD k default)).2.1 == "Consonant" && (decide (((linksR (rowsOf T cs) k).takeWhile (isIn ["Linker", "Extend"] ·)).length < k) &&
      ((linksR (rowsOf T cs) k).getD ((linksR (rowsOf T cs) k).takeWhile (isIn ["Linker", "Extend"] ·)).length default == "Consonant" && isIn ((linksR (rowsOf T cs) k).take ((linksR (rowsOf T cs) k).takeWhile (isIn ["Linker", "Extend"] ·)).length) "Linker"))) := by
    unfold conj
    rw [conjGo_eq, hlen, hlinks, Bool.false_or]
    rfl
  have hn : countW "Extend" ((backR (rowsOf T cs) k).drop 1) = ((cs.take (k - 1)).reverse.takeWhile (fun c => gk T c == "Extend")).length := by
    unfold countW
    rw [hback, ← List.map_drop, hdrop, takeWhile_map_len]
  have hlen1 : (cs.take (k - 1)).reverse.length = k - 1 := by rw [List.length_reverse, List.length_take]; exact Nat.min_eq_left (Nat.le_trans (Nat.sub_le k 1) (Nat.le_of_lt hk))
  have hpic : pic T cs k = (((rowOf T (cs.getD (k - 1) default)).1 == "ZWJ" && (rowOf T (cs.getD k default)).2.2) && (decide (1 + countW "Extend" ((backR (rowsOf T cs) k).drop 1) < k) && ((rowsOf T cs).getD (k - 1 - (1 + countW "Extend" ((backR (rowsOf T cs) k).drop 1))) default).2.2)) := by
    clear hconj hc hlinks hback hdrop mem ha hb hlen
    unfold pic
    rw [picGo_eq, hlen1, hn]
    generalize hN : ((cs.take (k - 1)).reverse.takeWhile (fun c => gk T c == "Extend")).length = N
    have e0 : (T.cl (cs.getD k default)).e = (rowOf T (cs.getD k default)).2.2 := rfl
    have e1 : gk T (cs.getD (k - 1) default) = (rowOf T (cs.getD (k - 1) default)).1 := rfl
    rw [e0, e1, Bool.and_comm (rowOf T (cs.getD k default)).2.2]
    by_cases hlt : N < k - 1
    · have e2 : (cs.take (k - 1)).reverse.getD N default = cs.getD (k - 1 - (1 + N)) default := by
        rw [List.getD_eq_getElem?_getD, List.getElem?_reverse (by rw [List.length_take]; apply Ar.f5 <;> assumption), List.length_take, Nat.min_eq_left (by apply Ar.c5 <;> assumption), List.getElem?_take_of_lt (by apply Ar.km <;> assumption), List.getD_eq_getElem?_getD]
        congr 2; lia
      rw [e2, rowsOf_at (by apply Ar.d2 <;> assumption), decide_eq_true hlt, decide_eq_true (by apply Ar.u7 <;> assumption)]; rfl
    · rw [decide_eq_false hlt, decide_eq_false (by apply Ar.u8 <;> assumption)]; rfl
  have hflag : isFlag T cs k = ((rowOf T (cs.getD k default)).1 == "Regional_Indicator" && countW (rowOf T (cs.getD k default)).1 (backR (rowsOf T cs) k) % 2 == 1) := by
    unfold isFlag flagsN countW
    rw [hback]
    have e1 : gk T (cs.getD k default) = (rowOf T (cs.getD k default)).1 := rfl
    rw [e1]
    by_cases hr : (rowOf T (cs.getD k default)).1 = "Regional_Indicator"
    · rw [hr, takeWhile_map_len]
    · have : ((rowOf T (cs.getD k default)).1 == "Regional_Indicator") = false := by simpa using hr
      rw [this]; rfl
  rw [← hconj, ← hpic, ← hflag]
  have hp : cpair (gk T (cs.getD (k - 1) default)) (gk T (cs.getD k default)) false = cpairL (rowOf T (cs.getD (k - 1) default)).1 (rowOf T (cs.getD k default)).1 := cpair_eq _ ha _ hb
  rw [hp]
  congr 1
  cases conj T cs k <;> cases pic T cs k <;> cases isFlag T cs k <;> rfl
end Uni
namespace Uni
noncomputable def csureR (l r : Row) : Bool := (cpair l.1 r.1 false).getD (if l.1 == "Regional_Indicator" || CMarks.any (· == l.1) || l.2.2 then false else l.2.1 == "None")
theorem csure_row (T : Tb) (l r : Int) : csure T l r = csureR (rowOf T l) (rowOf T r) := rfl
noncomputable def sureFacts (l r : Row) : Bool := (l.2.1 == "None" || r.2.1 == "None") && ((!(r.1 == "ZWJ" || r.1 == "Extend") || (l.1 != "Extend" && !l.2.2)) && (!(r.1 == "Regional_Indicator") || l.1 != "Regional_Indicator"))
theorem sure_facts : ∀ l ∈ menuC, ∀ r ∈ menuC, csureR l r = true → sureFacts l r = true := by decide +kernel
theorem conjGo_app (f : Int → Str) {B B' : List Int} (h : ∀ hl, conjGo f B hl = conjGo f B' hl) : ∀ (A : List Int) (hl : Bool), conjGo f (A ++ B) hl = conjGo f (A ++ B') hl
  | [], hl => h hl
  | a :: A, hl => by
    rw [List.cons_append, List.cons_append, conjGo, conjGo, conjGo_app f h A]
theorem picGo_app (T : Tb) {B B' : List Int} (h : picGo T B = picGo T B') : ∀ A : List Int, picGo T (A ++ B) = picGo T (A ++ B')
  | [] => h
  | a :: A => by
    have ih := picGo_app T h A
    unfold picGo at ih ⊢
    rw [List.cons_append, List.cons_append, List.dropWhile_cons, List.dropWhile_cons]
    by_cases c : (gk T a == "Extend") = true
    · rw [if_pos c, if_pos c]; exact ih
    · rw [if_neg c, if_neg c]
theorem takeWhile_app_len {p : Int → Bool} {B B' : List Int} (h : (B.takeWhile p).length = (B'.takeWhile p).length) : ∀ A : List Int, ((A ++ B).takeWhile p).length = ((A ++ B').takeWhile p).length
  | [] => h
  | a :: A => by
    have ih := takeWhile_app_len h A
    rw [List.cons_append, List.cons_append, List.takeWhile_cons, List.takeWhile_cons]
    by_cases c : p a = true
    · rw [if_pos c, if_pos c, List.length_cons, List.length_cons, ih]
    · rw [if_neg c, if_neg c]
theorem getD_take {α : Type} (l : List α) (d : α) {i k : Nat} (h : i < k) : (l.take k).getD i d = l.getD i d := by
  rw [List.getD_eq_getElem?_getD, List.getElem?_take_of_lt h, List.getD_eq_getElem?_getD]
theorem getD_drop {α : Type} (l : List α) (d : α) (k j : Nat) : (l.drop k).getD j d = l.getD (k + j) d := by
  rw [List.getD_eq_getElem?_getD, List.getElem?_drop, List.getD_eq_getElem?_getD]
theorem cbreak_take (T : Tb) (cs : List Int) {k i : Nat} (h1 : 1 ≤ i) (hi : i < k) (hk : k < cs.length) : cbreak T (cs.take k) i = cbreak T cs i := by
  have e1 : (cs.take k).length = k := by rw [List.length_take]; apply Ar.mn <;> assumption
  have c1 : (i == 0 || i == (cs.take k).length) = false := by rw [e1]; simp; apply Ar.ne <;> assumption
  have c2 : (i == 0 || i == cs.length) = false := by simp; lia
  have t1 : (cs.take k).take i = cs.take i := by rw [List.take_take, Nat.min_eq_left (by exact Nat.le_of_lt ‹_›)]
  have t2 : (cs.take k).take (i - 1) = cs.take (i - 1) := by rw [List.take_take, Nat.min_eq_left (by apply Ar.c5 <;> assumption)]
  unfold cbreak conj pic isFlag flagsN
  rw [c1, c2, getD_take _ _ hi, getD_take _ _ (show i - 1 < k by apply Ar.pred <;> assumption), t1, t2]
  rfl
theorem rev_split {cs : List Int} {k j : Nat} (h1 : 1 ≤ k) (hj : 1 ≤ j) (hk : k + j ≤ cs.length) : ∃ A rest, ((cs.drop k).take j).reverse = A ++ [cs.getD k default] ∧ (cs.take (k + j)).reverse = A ++ cs.getD k default :: cs.getD (k - 1) default :: rest := by
  obtain ⟨i, rfl⟩ : ∃ i, k = i + 1 := ⟨k - 1, by apply Ar.sp <;> assumption⟩
  obtain ⟨m, rfl⟩ : ∃ m, j = m + 1 := ⟨j - 1, by apply Ar.sp <;> assumption⟩
  have hd : cs.drop (i + 1) = cs.getD (i + 1) default :: cs.drop (i + 2) := by
    rw [List.drop_eq_getElem_cons (by lia), List.getD_eq_getElem?_getD, List.getElem?_eq_getElem (by lia)]; rfl
  have e1 : ((cs.drop (i + 1)).take (m + 1)).reverse = ((cs.drop (i + 2)).take m).reverse ++ [cs.getD (i + 1) default] := by
    rw [hd, List.take_succ_cons, List.reverse_cons]
  refine ⟨((cs.drop (i + 2)).take m).reverse, (cs.take i).reverse, e1, ?_⟩
  have e2 : cs.take (i + 1 + (m + 1)) = cs.take (i + 1) ++ (cs.drop (i + 1)).take (m + 1) := by rw [List.take_add]
  rw [e2, List.reverse_append, e1, take_rev_succ cs i (by lia), List.append_assoc]
  rfl
theorem cluster_sure {T : Tb} {cs : List Int} (hm : ∀ c ∈ cs, rowOf T c ∈ menuC) {k : Nat} (h1 : 1 ≤ k) (hk : k < cs.length) (hs : csure T (cs.getD (k - 1) default) (cs.getD k default) = true) :
    cbreak T cs k = true ∧ ∀ j, 1 ≤ j → k + j < cs.length → cbreak T (cs.drop k) j = cbreak T cs (k + j) := by
  have mem : ∀ j, j < cs.length → rowOf T (cs.getD j default) ∈ menuC := fun j hj => hm _ (by
    rw [List.getD_eq_getElem?_getD, List.getElem?_eq_getElem hj]; exact List.getElem_mem hj)
  have hl := mem (k - 1) (by apply Ar.pred <;> assumption)
  have hr := mem k hk
  have hf := sure_facts _ hl _ hr hs
  unfold sureFacts at hf
  simp only [Bool.and_eq_true, Bool.or_eq_true, Bool.not_eq_true', beq_iff_eq, bne_iff_ne, ne_eq] at hf
  obtain ⟨f1, f2, f3⟩ := hf
  generalize hl0 : cs.getD (k - 1) default = l at *
  generalize hr0 : cs.getD k default = r at *
  have il : (rowOf T l).2.1 = "None" → ∀ rest hl, conjGo (fun c => (T.cl c).i) (l :: rest) hl = false := fun h rest hl => by
    have h : (T.cl l).i = "None" := h
    rw [conjGo]
    simp only [h]
    rw [if_neg (by decide), if_neg (by decide)]
  have gl : (rowOf T r).1 = "ZWJ" ∨ (rowOf T r).1 = "Extend" → ∀ rest, picGo T (l :: rest) = false := fun h rest => by
    rcases f2 with q | ⟨q1, q2⟩
    · rcases h with h | h <;> rw [h] at q <;> exact absurd q (by decide)
    · have q1 : ¬ gk T l = "Extend" := q1
      have q2 : (T.cl l).e = false := q2
      unfold picGo
      rw [List.dropWhile_cons, if_neg (by simpa using q1)]
      exact q2
  refine ⟨?_, fun j hj hkj => ?_⟩
  · have c2 : (k == 0 || k == cs.length) = false := by simp; apply Ar.ne <;> assumption
    unfold cbreak
    rw [c2, hl0, hr0]
    simp only [Bool.false_eq_true, if_false]
    unfold csure at hs
    cases hp : cpair (gk T l) (gk T r) false with
    | some b => rw [hp] at hs; exact hs
    | none =>
      rw [hp] at hs
      simp only [Option.getD_none] at hs ⊢
      split at hs
      · cases hs
      · rename_i hc
        simp only [Bool.or_eq_true, not_or, Bool.not_eq_true] at hc
        obtain ⟨⟨g1, g2⟩, g3⟩ := hc
        obtain ⟨m, rfl⟩ : ∃ m, k = m + 1 := ⟨k - 1, by apply Ar.sp <;> assumption⟩
        have hrev : (cs.take (m + 1)).reverse = l :: (cs.take m).reverse := by rw [take_rev_succ cs m (by apply Ar.b6 <;> assumption), ← hl0]; rfl
        have e1 : conj T cs (m + 1) = false := by
          unfold conj
          rw [hrev, il (show (rowOf T l).2.1 = "None" from beq_iff_eq.mp hs), Bool.and_false]
        have e2 : pic T cs (m + 1) = false := by
          unfold pic
          have : (gk T l == "ZWJ") = false := by
            simp only [List.any_cons, List.any_nil, Bool.or_false, Bool.or_eq_false_iff] at g2
            have := g2.2
            rw [beq_eq_false_iff_ne] at this ⊢
            exact fun q => this q.symm
          rw [hl0, this, Bool.and_false, Bool.false_and]
        have e3 : isFlag T cs (m + 1) = false := by
          unfold isFlag flagsN
          rw [hrev, List.takeWhile_cons, g1]
          simp
        rw [e1, e2, e3]; rfl
  · have e0 : (cs.drop k).length = cs.length - k := by rw [List.length_drop]
    have c1 : (j == 0 || j == (cs.drop k).length) = false := by rw [e0]; simp; apply Ar.y4 <;> assumption
    have c2 : (k + j == 0 || k + j == cs.length) = false := by simp; lia
    have hd1 : (cs.drop k).getD (j - 1) default = cs.getD (k + j - 1) default := by rw [getD_drop]; congr 1; apply Ar.as' <;> assumption
    obtain ⟨A, rest, ea, eb⟩ := rev_split h1 hj (show k + j ≤ cs.length by exact Nat.le_of_lt ‹_›)
    rw [hl0, hr0] at eb
    rw [hr0] at ea
    have hconj : conj T (cs.drop k) j = conj T cs (k + j) := by
      unfold conj
      rw [getD_drop, ea, eb]
      congr 1
      refine (conjGo_app _ (fun hl => ?_) A false).symm
      have cg : ∀ (R : List Int) (hl : Bool), conjGo (fun c => (T.cl c).i) (r :: R) hl = if (T.cl r).i == "Consonant" then hl else if CJoints.any (· == (T.cl r).i) then conjGo (fun c => (T.cl c).i) R (hl || (T.cl r).i == "Linker") else false := fun _ _ => rfl
      rw [cg (l :: rest), cg []]
      rcases f1 with q | q
      · rw [il q]; rfl
      · have q : (T.cl r).i = "None" := q
        simp only [q]
        rfl
    have hflag : isFlag T (cs.drop k) j = isFlag T cs (k + j) := by
      unfold isFlag flagsN
      rw [getD_drop, ea, eb]
      congr 3
      refine (takeWhile_app_len (B := r :: l :: rest) (B' := [r]) ?_ A).symm
      have tw : ∀ R : List Int, (r :: R).takeWhile (fun c => gk T c == "Regional_Indicator") = if (gk T r == "Regional_Indicator") = true then r :: R.takeWhile (fun c => gk T c == "Regional_Indicator") else [] := fun R => List.takeWhile_cons
      rw [tw (l :: rest), tw []]
      by_cases c : (gk T r == "Regional_Indicator") = true
      · rw [if_pos c, if_pos c]
        have c' : (rowOf T r).1 = "Regional_Indicator" := beq_iff_eq.mp c
        have : ¬ gk T l = "Regional_Indicator" := f3.resolve_left (by rw [c']; decide)
        rw [List.takeWhile_cons, if_neg (by simpa using this)]; rfl
      · rw [if_neg c, if_neg c]
    have hpic : pic T (cs.drop k) j = pic T cs (k + j) := by
      unfold pic
      rw [getD_drop, hd1]
      by_cases cz : gk T (cs.getD (k + j - 1) default) = "ZWJ"
      · congr 1
        by_cases hj1 : j = 1
        · subst hj1
          have e1 : ((cs.drop k).take (1 - 1)).reverse = [] := by simp
          have e2 : (cs.take (k + 1 - 1)).reverse = l :: (cs.take (k - 1)).reverse := by
            obtain ⟨m, rfl⟩ : ∃ m, k = m + 1 := ⟨k - 1, by apply Ar.sp <;> assumption⟩
            rw [Nat.add_sub_cancel, take_rev_succ cs m (by apply Ar.b6 <;> assumption), ← hl0]; rfl
          rw [e1, e2]
          have : (rowOf T r).1 = "ZWJ" := by rw [Nat.add_sub_cancel, hr0] at cz; exact cz
          rw [gl (.inl this)]; rfl
        · obtain ⟨A2, rest2, ea2, eb2⟩ := rev_split h1 (show 1 ≤ j - 1 by apply Ar.q1 <;> assumption) (show k + (j - 1) ≤ cs.length by apply Ar.y3 <;> assumption)
          rw [show k + j - 1 = k + (j - 1) by apply Ar.as <;> assumption, ea2, eb2, hl0, hr0]
          refine (picGo_app T ?_ A2).symm
          by_cases c : gk T r = "Extend"
          · have e1 : picGo T (r :: l :: rest2) = picGo T (l :: rest2) := by unfold picGo; rw [List.dropWhile_cons, if_pos (by simpa using c)]
            have e2 : picGo T [r] = false := by unfold picGo; rw [List.dropWhile_cons, if_pos (by simpa using c)]; rfl
            rw [e1, e2, gl (.inr c)]
          · have dw : ∀ R : List Int, picGo T (r :: R) = (T.cl r).e := fun R => by
              unfold picGo
              rw [List.dropWhile_cons, if_neg (by simpa using c)]
            rw [dw, dw]
      · have : (gk T (cs.getD (k + j - 1) default) == "ZWJ") = false := by simpa using cz
        rw [this, Bool.and_false, Bool.false_and, Bool.false_and]
    unfold cbreak
    rw [c1, c2, hd1, getD_drop, hconj, hpic, hflag]
    rfl
end Uni
namespace Uni
theorem leftL_eq (hang ends W V : List Str) {i : Nat} (hi : i ≤ W.length) : leftL hang ends W V i = revK (keptK hang ends W) V i := by
  have h1 : (keptI hang ends W).filter (fun j => decide (j < i)) = (List.range i).filter (keptK hang ends W) := by
    unfold keptI
    rw [filter_comm', filter_range_lt, Nat.min_eq_left hi]
  unfold leftL
  rw [h1]
  clear h1 hi
  induction i with
  | zero => rfl
  | succ i ih =>
    rw [List.range_succ, List.filter_append, List.map_append, List.reverse_append, ih, revK]
    by_cases h : keptK hang ends W i = true
    · simp [h]
    · simp [h]
theorem rightL_eq (hang ends W V : List Str) (i : Nat) : rightL hang ends W V i = ((List.range' i (W.length - i)).filter (keptK hang ends W)).map fun j => V.getD j "" := by
  unfold rightL keptI
  rw [filter_comm', filter_range_ge]
theorem revK_at (k : Nat → Bool) (V : List Str) {i : Nat} (h : 0 ≤ prevK k i) : revK k V i = at' V (prevK k i) :: revK k V (prevK k i).toNat := by
  rw [revK_prev, if_neg (by apply Ar.l7 <;> assumption)]
theorem revK_far (k : Nat → Bool) (V : List Str) (i : Nat) : (revK k V i ++ em).getD 0 "" = at' V (prevK k i) := by
  rw [revK_prev]
  split
  · rename_i h
    unfold at'
    rw [if_neg (by apply Ar.l6 <;> assumption)]; rfl
  · rfl
theorem next_kept (W : List Str) : ∀ (m q : Nat), 1 ≤ q → q + m = W.length → isIn WEnds (W.getD (q - 1) "") = false → (((List.range' q m).filter (wK W)).map (fun j => W.getD j "") ++ em).getD 0 "" = at' W (rightW W q)
  | 0, q, h1, h2, h3 => by
    have : rightW W q = q := by unfold rightW; rw [List.drop_eq_nil_of_le (by apply Ar.j4 <;> assumption)]; rfl
    rw [this]
    unfold at'
    rw [if_pos (by exact Int.natCast_nonneg _), Int.toNat_natCast, List.getD_eq_getElem?_getD (l := W), List.getElem?_eq_none (by apply Ar.j4 <;> assumption)]; rfl
  | m + 1, q, h1, h2, h3 => by
    have hq : q < W.length := by apply Ar.f4 <;> assumption
    have hd : W.drop q = W.getD q "" :: W.drop (q + 1) := by
      rw [List.drop_eq_getElem_cons hq, List.getD_eq_getElem?_getD, List.getElem?_eq_getElem hq]; rfl
    rw [List.range'_succ, List.filter_cons]
    by_cases hs : isIn WSkip (W.getD q "") = true
    · have hk : wK W q = false := by
        have e3 : (q == 0) = false := by simp; lia
        simp only [wK, keptK, hs, e3, h3]; rfl
      have e : rightW W q = rightW W (q + 1) := by
        unfold rightW
        rw [hd, List.takeWhile_cons, if_pos hs, List.length_cons]; exact Ar.k3
      rw [if_neg (by rw [hk]; decide), e]
      exact next_kept W m (q + 1) (by apply Ar.w7 <;> assumption) (by apply Ar.d4 <;> assumption) (wdisj _ hs)
    · have hk : wK W q = true := by simp only [wK, keptK, Bool.eq_false_iff.mpr hs, Bool.not_false, Bool.true_or]
      have e : rightW W q = q := by
        unfold rightW
        rw [hd, List.takeWhile_cons, if_neg hs]; rfl
      rw [if_pos hk, e]
      unfold at'
      rw [if_pos (by exact Int.natCast_nonneg _)]; rfl
noncomputable def lawWR (x far y beyond : Str) (odd : Bool) : Bool :=
  if isIn LWL x && (isIn LWL y || (y == "Numeric" || (isIn LWM y && isIn LWL beyond))) then false
  else if isIn LWL y && ((isIn LWM x && isIn LWL far) || x == "Numeric") then false
  else if x == "Hebrew_Letter" && (y == "Single_Quote" || (y == "Double_Quote" && beyond == "Hebrew_Letter")) then false
  else if y == "Hebrew_Letter" && (x == "Double_Quote" && far == "Hebrew_Letter") then false
  else if x == "Numeric" && (y == "Numeric" || (isIn LWN y && beyond == "Numeric")) then false
  else if (y == "Numeric" && (isIn LWN x && far == "Numeric")) || (x == "Katakana" && y == "Katakana") then false
  else if (y == "ExtendNumLet" && (isIn LWS x || x == y)) || (x == "ExtendNumLet" && isIn LWS y) then false
  else !(y == "Regional_Indicator" && odd)
noncomputable def reps : List Str := ["Hebrew_Letter", "ALetter", "Numeric", ""]
noncomputable def tri (s : Str) : Bool × Bool × Bool := (isIn LWL s, s == "Hebrew_Letter", s == "Numeric")
theorem tri_rep (s : Str) : ∃ r ∈ reps, tri s = tri r := by
  by_cases h1 : s = "Hebrew_Letter"
  · exact ⟨s, by rw [h1]; decide, rfl⟩
  by_cases h2 : s = "ALetter"
  · exact ⟨s, by rw [h2]; decide, rfl⟩
  by_cases h3 : s = "Numeric"
  · exact ⟨s, by rw [h3]; decide, rfl⟩
  refine ⟨"", by decide, ?_⟩
  have e1 : (s == "Hebrew_Letter") = false := by simpa using h1
  have e3 : (s == "Numeric") = false := by simpa using h3
  have e2 : isIn LWL s = false := by
    simp only [isIn, List.any_cons, List.any_nil, Bool.or_false, Bool.or_eq_false_iff, beq_eq_false_iff_ne, ne_eq]
    exact ⟨fun q => h2 q.symm, fun q => h1 q.symm⟩
  have e4 : tri "" = (false, false, false) := by decide
  rw [e4]; unfold tri; rw [e1, e2, e3]
theorem lawWR_tri {x far far' y bey bey' : Str} {odd : Bool} (h1 : tri far = tri far') (h2 : tri bey = tri bey') : lawWR x far y bey odd = lawWR x far' y bey' odd := by
  obtain ⟨a1, a2⟩ := Prod.mk.inj h1
  obtain ⟨a2, a3⟩ := Prod.mk.inj a2
  obtain ⟨b1, b2⟩ := Prod.mk.inj h2
  obtain ⟨b2, b3⟩ := Prod.mk.inj b2
  unfold lawWR
  rw [a1, a2, a3, b1, b2, b3]
theorem bridges_tri {one bt ot one' ot' : Str} (h1 : tri one = tri one') (h2 : tri ot = tri ot') : bridges one bt ot = bridges one' bt ot' := by
  obtain ⟨a1, a2⟩ := Prod.mk.inj h1
  obtain ⟨a2, a3⟩ := Prod.mk.inj a2
  obtain ⟨b1, b2⟩ := Prod.mk.inj h2
  obtain ⟨b2, b3⟩ := Prod.mk.inj b2
  have a1 : isIn WLet one = isIn WLet one' := a1
  have b1 : isIn WLet ot = isIn WLet ot' := b1
  unfold bridges
  rw [a1, a2, a3, b1, b2, b3]
theorem joinedB_tri {x far far' y bey bey' : Str} {odd : Bool} (h1 : tri far = tri far') (h2 : tri bey = tri bey') : joinedB x y far bey odd = joinedB x y far' bey' odd := by
  unfold joinedB
  rw [bridges_tri (one := x) (bt := y) rfl h2, bridges_tri (bt := x) (ot := y) h1 rfl]
theorem words_finite : ∀ x ∈ menuW, ∀ y ∈ menuW, ∀ far ∈ reps, ∀ bey ∈ reps, ∀ odd ∈ [true, false], (odd = true → x = "Regional_Indicator") → lawWR x far y bey odd = !joinedB x y far bey odd := by decide +kernel
theorem lawWB_eq (a b : Str) (pic : Bool) (x far y bey : Str) (odd : Bool) : lawWB a b pic x far y bey odd = if a == "CR" && b == "LF" then false else if isIn WEnds a || isIn WEnds b then true else if (a == "ZWJ" && pic) || ((a == "WSegSpace" && b == "WSegSpace") || isIn WSkip b) then false else lawWR x far y bey odd := rfl
theorem lawWR_odd {x far y bey : Str} {o o' : Bool} (h : y = "Regional_Indicator" → o = o') : lawWR x far y bey o = lawWR x far y bey o' := by
  unfold lawWR
  by_cases c : y = "Regional_Indicator"
  · rw [h c]
  · have : (y == "Regional_Indicator") = false := by simpa using c
    rw [this]; rfl
theorem words_rest {x y far bey : Str} {odd : Bool} (hx : x ∈ menuW) (hy : y ∈ menuW) (ho : odd = true → x = "Regional_Indicator") : lawWR x far y bey odd = !joinedB x y far bey odd := by
  obtain ⟨f, hf, ef⟩ := tri_rep far
  obtain ⟨b, hb, eb⟩ := tri_rep bey
  rw [lawWR_tri ef eb, joinedB_tri ef eb]
  exact words_finite x hx y hy f hf b hb odd (by cases odd <;> simp) ho
theorem countW_em {x : Str} (hx : (("" : Str) == x) = false) (l : List Str) : countW x (l ++ em) = countW x l := by
  unfold countW
  induction l with
  | nil => simp [em, hx]
  | cons a l ih =>
    rw [List.cons_append, List.takeWhile_cons, List.takeWhile_cons]
    split
    · simpa using ih
    · rfl
theorem at_mem {W M : List Str} (hM : ∀ x ∈ W, x ∈ M) {p : Int} (h0 : 0 ≤ p) (h : p < W.length) : at' W p ∈ M := by
  unfold at'
  rw [if_pos h0, List.getD_eq_getElem?_getD, List.getElem?_eq_getElem (by apply Ar.b1 <;> assumption)]
  exact hM _ (List.getElem_mem _)
theorem word_law {T : Tb} {cs : List Int} (hm : ∀ c ∈ cs, (T.cl c).w ∈ menuW) {i : Nat} (h1 : 1 ≤ i) (hi : i < cs.length) : wrule T cs i = lawW (wws T cs) (rowsOf T cs) i := by
  have hlen : (wws T cs).length = cs.length := by simp [wws]
  have hM : ∀ x ∈ wws T cs, x ∈ menuW := fun x hx => by
    obtain ⟨c, hc, rfl⟩ := List.mem_map.mp hx
    exact hm c hc
  have hpic : ((rowsOf T cs).getD i default).2.2 = (T.cl (cs.getD i default)).e := by rw [rowsOf_at hi]; rfl
  have hcnd : (i == 0 || decide (cs.length ≤ i)) = false := by simp; apply Ar.ne2 <;> assumption
  unfold wrule lawW
  rw [hcnd, hpic]
  simp only [Bool.false_eq_true, if_false]
  generalize hW : wws T cs = W at *
  generalize (T.cl (cs.getD i default)).e = pic
  have hat : ∀ j : Nat, at' W j = W.getD j "" := fun j => by unfold at'; rw [if_pos (by exact Int.natCast_nonneg _)]; rfl
  rw [hat, hat, lawWB_eq]
  unfold wruleB
  generalize ha : W.getD (i - 1) "" = a
  generalize hb : W.getD i "" = b
  split
  · rfl
  split
  · rfl
  rename_i hE
  rw [Bool.or_eq_true, not_or, Bool.not_eq_true, Bool.not_eq_true] at hE
  by_cases c1 : (a == "ZWJ" && pic) = true
  · rw [if_pos c1, c1]; rfl
  rw [if_neg c1, Bool.eq_false_iff.mpr c1, Bool.false_or]
  by_cases c2 : (a == "WSegSpace" && b == "WSegSpace") = true
  · rw [if_pos c2, c2]; rfl
  rw [if_neg c2, Bool.eq_false_iff.mpr c2, Bool.false_or]
  by_cases c3 : isIn WSkip b = true
  · rw [if_pos c3, if_pos c3]
  rw [if_neg c3, if_neg c3]
  have hp0 := leftW_pos W h1
  have hpl := leftW_lt W i
  have hpe : leftW W i = prevK (wK W) i := by unfold leftW; rw [Int.toNat_natCast]
  have hL : leftL WSkip WEnds W W i = at' W (leftW W i) :: revK (wK W) W (leftW W i).toNat := by
    rw [leftL_eq _ _ _ _ (by lia), hpe]
    exact revK_at _ _ (by rw [← hpe]; exact hp0)
  have hR : rightL WSkip WEnds W W i = b :: ((List.range' (i + 1) (W.length - (i + 1))).filter (wK W)).map (fun j => W.getD j "") := by
    rw [rightL_eq, show W.length - i = (W.length - (i + 1)) + 1 by apply Ar.sucE <;> assumption, List.range'_succ, List.filter_cons, if_pos, List.map_cons, hb]
    simp only [keptK, hb, Bool.eq_false_iff.mpr c3, Bool.not_false, Bool.true_or]
  have e0 : (leftL WSkip WEnds W W i ++ em).getD 0 "" = at' W (leftW W i) := by rw [hL]; rfl
  have e1 : (leftL WSkip WEnds W W i ++ em).getD 1 "" = at' W (leftW W (leftW W i)) := by
    rw [hL, List.cons_append, List.getD_cons_succ, revK_far]; rfl
  have r0 : (rightL WSkip WEnds W W i ++ em).getD 0 "" = b := by rw [hR]; rfl
  have r1 : (rightL WSkip WEnds W W i ++ em).getD 1 "" = at' W (rightW W (i + 1)) := by
    rw [hR, List.cons_append, List.getD_cons_succ]
    exact next_kept W _ _ (by apply Ar.w7 <;> assumption) (by apply Ar.d5 <;> assumption) (by rw [Nat.add_sub_cancel, hb]; exact hE.2)
  rw [e0, e1, r0, r1]
  have hodd : b = "Regional_Indicator" → (countW b (leftL WSkip WEnds W W i ++ em) % 2 == 1) = (flagsW W (leftW W i) % 2 == 1) := fun q => by
    rw [q, countW_em (by decide), hL]
    unfold flagsW
    rw [if_neg (by apply Ar.l7 <;> assumption)]; rfl
  unfold joinedW
  rw [hat, hb, lawWR_odd hodd]
  refine (words_rest (at_mem hM hp0 (by lia)) (by rw [← hb, ← hat]; exact at_mem hM (by exact Int.natCast_nonneg _) (by apply Ar.ar <;> assumption)) (fun q => ?_)).symm
  unfold flagsW at q
  rw [if_neg (by apply Ar.l7 <;> assumption), countL, List.takeWhile_cons] at q
  by_cases c : (at' W (leftW W i) == "Regional_Indicator") = true
  · exact beq_iff_eq.mp c
  · rw [if_neg c] at q; simp at q
end Uni
namespace Uni
theorem tri_end {s : Str} (h : isIn WEnds s = true) : tri s = tri "" := by
  simp only [isIn, List.any_cons, List.any_nil, Bool.or_false, Bool.or_eq_true, beq_iff_eq] at h
  rcases h with h | h | h <;> subst h <;> decide
theorem end_notSkip {s : Str} (h : isIn WEnds s = true) : isIn WSkip s = false := by
  cases c : isIn WSkip s with
  | false => rfl
  | true => rw [wdisj s c] at h; cases h
theorem at_nat (W : List Str) (j : Nat) : at' W j = W.getD j "" := by unfold at'; rw [if_pos (by exact Int.natCast_nonneg _)]; rfl
theorem prevK_congr {k k' : Nat → Bool} : ∀ {i : Nat}, (∀ j, j < i → k j = k' j) → prevK k i = prevK k' i
  | 0, _ => rfl
  | i + 1, h => by
    rw [prevK, prevK, h i (by lia), prevK_congr fun j hj => h j (by apply Ar.ls <;> assumption)]
theorem revK_congr {k k' : Nat → Bool} {V V' : List Str} : ∀ {i : Nat}, (∀ j, j < i → k j = k' j) → (∀ j, j < i → V.getD j "" = V'.getD j "") → revK k V i = revK k' V' i
  | 0, _, _ => rfl
  | i + 1, h, g => by
    rw [revK, revK, h i (by lia), g i (by lia), revK_congr (fun j hj => h j (by apply Ar.ls <;> assumption)) fun j hj => g j (by apply Ar.ls <;> assumption)]
theorem keptK_take {hang ends W : List Str} {k j : Nat} (h : j < k) : keptK hang ends (W.take k) j = keptK hang ends W j := by
  unfold keptK
  rw [getD_take _ _ h, getD_take _ _ (show j - 1 < k by apply Ar.pred <;> assumption)]
theorem word_take {T : Tb} {cs : List Int} {k i : Nat} (h1 : 1 ≤ i) (hi : i < k) (hk : k < cs.length) (hs : isIn WEnds ((wws T cs).getD (k - 1) "") = true ∨ isIn WEnds ((wws T cs).getD k "") = true) :
    wrule T (cs.take k) i = wrule T cs i := by
  have hlen : (wws T cs).length = cs.length := by simp [wws]
  have ht : wws T (cs.take k) = (wws T cs).take k := by unfold wws; rw [List.map_take]
  have e1 : (cs.take k).length = k := by rw [List.length_take]; apply Ar.mn <;> assumption
  have c1 : (i == 0 || decide ((cs.take k).length ≤ i)) = false := by rw [e1]; simp; apply Ar.ne2 <;> assumption
  have c2 : (i == 0 || decide (cs.length ≤ i)) = false := by simp; lia
  unfold wrule
  rw [c1, c2, getD_take _ _ hi, ht]
  simp only [Bool.false_eq_true, if_false]
  generalize hW : wws T cs = W at *
  generalize (T.cl (cs.getD i default)).e = pic
  have hat : ∀ j, j < k → at' (W.take k) (j : Nat) = at' W j := fun j hj => by rw [at_nat, at_nat, getD_take _ _ hj]
  rw [hat _ (show i - 1 < k by apply Ar.pred <;> assumption), hat _ hi]
  have hkk : ∀ j, j < k → wK (W.take k) j = wK W j := fun j hj => keptK_take hj
  have hleft : ∀ p : Int, p ≤ k → leftW (W.take k) p = leftW W p := fun p hp => prevK_congr fun j hj => hkk j (by lia)
  have hlt := leftW_lt W i
  have hp0 := leftW_pos W h1
  have hatI : ∀ p : Int, p < k → at' (W.take k) p = at' W p := fun p hp => by
    unfold at'
    split
    · rw [getD_take _ _ (by apply Ar.b1 <;> assumption)]
    · rfl
  have hfl : flagsW (W.take k) (leftW W i) = flagsW W (leftW W i) := by
    have e1 := hatI (leftW W i) (by lia)
    have e2 : revK (wK (W.take k)) (W.take k) (leftW W i).toNat = revK (wK W) W (leftW W i).toNat := revK_congr (fun j hj => hkk j (by apply Ar.w6 <;> assumption)) fun j hj => getD_take _ _ (show j < k by apply Ar.w6 <;> assumption)
    unfold flagsW
    rw [e1, e2]
  by_cases hb : isIn WEnds (at' W i) = true
  · unfold wruleB
    rw [hb, Bool.or_true]
    rfl
  have hfar : leftW W (leftW W (i : Nat)) < k := by
    have := leftW_lt W (leftW W (i : Nat)).toNat
    rw [Int.toNat_of_nonneg hp0] at this
    lia
  unfold joinedW
  rw [hleft (i : Nat) (by lia), hatI (leftW W (i : Nat)) (by lia), hat _ hi, hleft (leftW W (i : Nat)) (by lia), hatI (leftW W (leftW W (i : Nat))) hfar, hfl]
  congr 1
  refine joinedB_tri rfl ?_
  -- the next class on the right
  have gen : ∀ m q, q + m = k → i < q → (q - 1 = i ∨ isIn WSkip (W.getD (q - 1) "") = true) → tri (at' (W.take k) (rightW (W.take k) q)) = tri (at' W (rightW W q)) := fun m => by
    induction m with
    | zero =>
      intro q hq hiq hpre
      obtain rfl : q = k := by lia
      have e1 : rightW (W.take q) q = q := by unfold rightW; rw [List.drop_eq_nil_of_le (by rw [List.length_take]; lia)]; rfl
      have e2 : at' (W.take q) (q : Nat) = "" := by rw [at_nat, List.getD_eq_getElem?_getD, List.getElem?_eq_none (by rw [List.length_take]; lia)]; rfl
      rw [e1, e2]
      by_cases hr : isIn WEnds (W.getD q "") = true
      · have hd : W.drop q = W.getD q "" :: W.drop (q + 1) := by
          rw [List.drop_eq_getElem_cons (by apply Ar.le <;> assumption), List.getD_eq_getElem?_getD, List.getElem?_eq_getElem (by apply Ar.le <;> assumption)]; rfl
        have e3 : rightW W q = q := by
          unfold rightW
          rw [hd, List.takeWhile_cons, if_neg (by rw [end_notSkip hr]; decide)]; rfl
        rw [e3, at_nat]
        exact (tri_end hr).symm
      · exfalso
        have hl := hs.resolve_right hr
        rcases hpre with hq1 | hq1
        · rw [at_nat] at hb
          rw [hq1] at hl; exact hb hl
        · rw [end_notSkip hl] at hq1; cases hq1
    | succ m ih =>
      intro q hq hiq hpre
      have hd : W.drop q = W.getD q "" :: W.drop (q + 1) := by
        rw [List.drop_eq_getElem_cons (by lia), List.getD_eq_getElem?_getD, List.getElem?_eq_getElem (by lia)]; rfl
      have hd' : (W.take k).drop q = W.getD q "" :: (W.take k).drop (q + 1) := by
        rw [List.drop_eq_getElem_cons (by rw [List.length_take]; lia), List.getElem_take, List.getD_eq_getElem?_getD, List.getElem?_eq_getElem (by lia)]; rfl
      by_cases hsk : isIn WSkip (W.getD q "") = true
      · have e1 : rightW W q = rightW W (q + 1) := by
          unfold rightW
          rw [hd, List.takeWhile_cons, if_pos hsk, List.length_cons]; exact Ar.k3
        have e2 : rightW (W.take k) q = rightW (W.take k) (q + 1) := by
          unfold rightW
          rw [hd', List.takeWhile_cons, if_pos hsk, List.length_cons]; exact Ar.k3
        rw [e1, e2]
        exact ih (q + 1) (by apply Ar.d4 <;> assumption) (by apply Ar.ls <;> assumption) (.inr (by rw [Nat.add_sub_cancel]; exact hsk))
      · have e1 : rightW W q = q := by
          unfold rightW
          rw [hd, List.takeWhile_cons, if_neg hsk]; rfl
        have e2 : rightW (W.take k) q = q := by
          unfold rightW
          rw [hd', List.takeWhile_cons, if_neg hsk]; rfl
        rw [e1, e2, hat _ (by apply Ar.f4 <;> assumption)]
  exact gen (k - (i + 1)) (i + 1) (by apply Ar.d6 <;> assumption) (by lia) (.inl (by lia))
theorem prevK_drop {k k' : Nat → Bool} {m : Nat} (h0 : k' 0 = true) (h : ∀ j, k' j = k (m + j)) : ∀ j, 1 ≤ j → prevK k (m + j) = m + prevK k' j ∧ 0 ≤ prevK k' j
  | 0, hj => absurd hj (by lia)
  | 1, _ => by
    have e : prevK k' 1 = 0 := by rw [prevK, if_pos h0]; rfl
    rw [e, prevK, if_pos (show k m = true by have := h 0; rw [Nat.add_zero] at this; rw [← this]; exact h0)]
    lia
  | j + 2, _ => by
    have ih := prevK_drop h0 h (j + 1) (by lia)
    have e1 : prevK k' (j + 2) = if k' (j + 1) then ((j + 1 : Nat) : Int) else prevK k' (j + 1) := rfl
    have e2 : prevK k (m + (j + 2)) = if k (m + (j + 1)) then ((m + (j + 1) : Nat) : Int) else prevK k (m + (j + 1)) := rfl
    rw [e1, e2, ← h (j + 1)]
    by_cases c : k' (j + 1) = true
    · rw [if_pos c, if_pos c]; lia
    · rw [if_neg c, if_neg c]; exact ih
theorem revK_drop {k k' : Nat → Bool} {V V' : List Str} {m : Nat} (h : ∀ j, k' j = k (m + j)) (g : ∀ j, V'.getD j "" = V.getD (m + j) "") : ∀ j, revK k V (m + j) = revK k' V' j ++ revK k V m
  | 0 => rfl
  | j + 1 => by
    have ih := revK_drop h g j
    have e2 : revK k V (m + (j + 1)) = if k (m + j) then V.getD (m + j) "" :: revK k V (m + j) else revK k V (m + j) := rfl
    rw [e2, revK, ← h j, ← g j, ih]
    by_cases c : k' j = true
    · rw [if_pos c, if_pos c]; rfl
    · rw [if_neg c, if_neg c]
theorem revK_last {k' : Nat → Bool} {V' : List Str} (h0 : k' 0 = true) : ∀ q, ∃ A, revK k' V' (q + 1) = A ++ [V'.getD 0 ""]
  | 0 => ⟨[], by rw [revK, if_pos h0]; rfl⟩
  | q + 1 => by
    obtain ⟨A, e⟩ := revK_last (V' := V') h0 q
    have e2 : revK k' V' (q + 1 + 1) = if k' (q + 1) then V'.getD (q + 1) "" :: revK k' V' (q + 1) else revK k' V' (q + 1) := rfl
    rw [e2, e]
    by_cases c : k' (q + 1) = true
    · rw [if_pos c]; exact ⟨_ :: A, rfl⟩
    · rw [if_neg c]; exact ⟨A, rfl⟩
theorem countL_app {x : Str} {B B' : List Str} (h : countL x B = countL x B') : ∀ A, countL x (A ++ B) = countL x (A ++ B')
  | [] => h
  | a :: A => by
    have ih := countL_app h A
    unfold countL at ih ⊢
    rw [List.cons_append, List.cons_append, List.takeWhile_cons, List.takeWhile_cons]
    by_cases c : (a == x) = true
    · rw [if_pos c, if_pos c, List.length_cons, List.length_cons, ih]
    · rw [if_neg c, if_neg c]
theorem bridges_end {x far far' y : Str} (h : isIn WEnds x = true) : bridges far x y = bridges far' x y := by
  have gen : ∀ f, bridges f x y = false := fun f => by
    simp only [isIn, List.any_cons, List.any_nil, Bool.or_false, Bool.or_eq_true, beq_iff_eq] at h
    unfold bridges
    rcases h with h | h | h <;> subst h <;> cases isIn WLet f <;> cases isIn WLet y <;> cases (f == "Numeric" : Bool) <;> cases (y == "Numeric" : Bool) <;> cases (f == "Hebrew_Letter" : Bool) <;> cases (y == "Hebrew_Letter" : Bool) <;> decide
  rw [gen, gen]
theorem word_drop {T : Tb} {cs : List Int} {k j : Nat} (h1 : 1 ≤ k) (hj : 1 ≤ j) (hk : k + j < cs.length) (hs : isIn WEnds ((wws T cs).getD (k - 1) "") = true ∨ isIn WEnds ((wws T cs).getD k "") = true) :
    wrule T (cs.drop k) j = wrule T cs (k + j) := by
  have hlen : (wws T cs).length = cs.length := by simp [wws]
  have ht : wws T (cs.drop k) = (wws T cs).drop k := by unfold wws; rw [List.map_drop]
  have e1 : (cs.drop k).length = cs.length - k := by rw [List.length_drop]
  have c1 : (j == 0 || decide ((cs.drop k).length ≤ j)) = false := by rw [e1]; simp; lia
  have c2 : (k + j == 0 || decide (cs.length ≤ k + j)) = false := by simp; lia
  unfold wrule
  rw [c1, c2, getD_drop, ht]
  simp only [Bool.false_eq_true, if_false]
  generalize hW : wws T cs = W at *
  generalize (T.cl (cs.getD (k + j) default)).e = pic
  have hg : ∀ q, (W.drop k).getD q "" = W.getD (k + q) "" := fun q => getD_drop _ _ _ _
  have hat : ∀ q : Nat, at' (W.drop k) q = at' W (k + q : Nat) := fun q => by rw [at_nat, at_nat, hg]
  have h0 : wK (W.drop k) 0 = true := by unfold wK keptK; simp
  have hkk : ∀ q, wK (W.drop k) q = wK W (k + q) := fun q => by
    cases q with
    | zero =>
      rw [h0]
      unfold wK keptK
      rcases hs with h | h
      · rw [Nat.add_zero, h, Bool.or_true]
      · rw [Nat.add_zero, end_notSkip h]; rfl
    | succ q =>
      unfold wK keptK
      rw [hg, hg, show k + (q + 1) - 1 = k + (q + 1 - 1) by lia]
      have a1 : (q + 1 == 0) = false := by simp
      have a2 : (k + (q + 1) == 0) = false := by simp
      rw [a1, a2]
  have ed : k + j - 1 = k + (j - 1) := by apply Ar.as <;> assumption
  rw [ed, ← hat, ← hat]
  congr 1
  -- the left side
  obtain ⟨hp, hp0⟩ := prevK_drop h0 hkk j hj
  have hl1 : leftW (W.drop k) j = prevK (wK (W.drop k)) j := by unfold leftW; rw [Int.toNat_natCast]
  have hl2 : leftW W (k + j : Nat) = k + leftW (W.drop k) j := by rw [hl1, ← hp]; unfold leftW; rw [Int.toNat_natCast]
  obtain ⟨p, hpp⟩ : ∃ p : Nat, leftW (W.drop k) j = p := ⟨(leftW (W.drop k) j).toNat, by lia⟩
  have hpk : wK (W.drop k) p = true := by
    have := prevK_k (wK (W.drop k)) j hp0
    rw [← hl1, hpp, Int.toNat_natCast] at this
    exact this
  have hr : rightW W (k + j + 1) = k + rightW (W.drop k) (j + 1) := by
    unfold rightW
    rw [List.drop_drop, show k + (j + 1) = k + j + 1 by lia]; lia
  have hfl : flagsW (W.drop k) (p : Nat) = flagsW W (k + p : Nat) := by
    have f1 : flagsW (W.drop k) (p : Nat) = countL "Regional_Indicator" (revK (wK (W.drop k)) (W.drop k) (p + 1)) := by
      unfold flagsW
      rw [if_neg (by lia), Int.toNat_natCast, revK, if_pos hpk, at_nat]
    have f2 : flagsW W (k + p : Nat) = countL "Regional_Indicator" (revK (wK W) W (k + (p + 1))) := by
      unfold flagsW
      have : revK (wK W) W (k + (p + 1)) = if wK W (k + p) then W.getD (k + p) "" :: revK (wK W) W (k + p) else revK (wK W) W (k + p) := rfl
      rw [if_neg (by lia), Int.toNat_natCast, this, ← hkk, if_pos hpk, at_nat]
    rw [f1, f2, revK_drop hkk hg]
    obtain ⟨A, eA⟩ := revK_last (V' := W.drop k) h0 p
    rw [eA, List.append_assoc]
    refine (countL_app ?_ A).symm
    rw [hg, Nat.add_zero]
    unfold countL
    rw [List.singleton_append, List.takeWhile_cons, List.takeWhile_cons]
    by_cases c : (W.getD k "" == "Regional_Indicator") = true
    · rw [if_pos c, if_pos c]
      have hle : isIn WEnds (W.getD (k - 1) "") = true := hs.resolve_right (by rw [beq_iff_eq.mp c]; decide)
      obtain ⟨m, rfl⟩ : ∃ m, k = m + 1 := ⟨k - 1, by apply Ar.sp <;> assumption⟩
      rw [Nat.add_sub_cancel] at hle
      have hkm : wK W m = true := by unfold wK keptK; rw [end_notSkip hle]; rfl
      rw [revK, if_pos hkm, List.takeWhile_cons, if_neg]
      · rfl
      · intro q
        rw [beq_iff_eq.mp q] at hle
        revert hle; decide
    · rw [if_neg c, if_neg c]
  unfold joinedW
  rw [hl2, hpp]
  rw [show ((k : Int) + (p : Nat)) = ((k + p : Nat) : Int) by lia, ← hat, ← hat, hfl, hr, ← hat]
  by_cases hpz : p = 0
  · subst hpz
    have ef : at' (W.drop k) (leftW (W.drop k) (0 : Nat)) = "" := rfl
    rw [ef]
    rcases hs with h | h
    · refine joinedB_tri (Eq.symm ?_) rfl
      obtain ⟨m, rfl⟩ : ∃ m, k = m + 1 := ⟨k - 1, by apply Ar.sp <;> assumption⟩
      rw [Nat.add_sub_cancel] at h
      have hkm : wK W m = true := by unfold wK keptK; rw [end_notSkip h]; rfl
      have : leftW W ((m + 1 + 0 : Nat) : Int) = m := by
        unfold leftW
        rw [Int.toNat_natCast, Nat.add_zero, prevK, if_pos hkm]
      rw [this, at_nat]
      exact tri_end h
    · have hx : isIn WEnds (at' (W.drop k) (0 : Nat)) = true := by rw [at_nat, hg, Nat.add_zero]; exact h
      unfold joinedB
      rw [bridges_end (far := "") (far' := at' W (leftW W ((k + 0 : Nat) : Int))) hx]
  · obtain ⟨g1, g2⟩ := prevK_drop h0 hkk p (by apply Ar.n0 <;> assumption)
    have ef : at' (W.drop k) (leftW (W.drop k) (p : Nat)) = at' W (leftW W ((k + p : Nat) : Int)) := by
      unfold leftW
      rw [Int.toNat_natCast, Int.toNat_natCast, g1]
      obtain ⟨u, hu⟩ : ∃ u : Nat, prevK (wK (W.drop k)) p = u := ⟨(prevK (wK (W.drop k)) p).toNat, by apply Ar.w5 <;> assumption⟩
      rw [hu, hat]; rfl
    rw [ef]
theorem word_sure {T : Tb} {cs : List Int} {k : Nat} (h1 : 1 ≤ k) (hk : k < cs.length) (hs : bsure T (cs.getD (k - 1) default) (cs.getD k default) = true) :
    wrule T cs k = true ∧ (isIn WEnds ((wws T cs).getD (k - 1) "") = true ∨ isIn WEnds ((wws T cs).getD k "") = true) := by
  have hg : ∀ j, j < cs.length → (wws T cs).getD j "" = (T.cl (cs.getD j default)).w := fun j hj => by
    unfold wws
    rw [List.getD_eq_getElem?_getD, List.getElem?_map, List.getElem?_eq_getElem hj, List.getD_eq_getElem?_getD, List.getElem?_eq_getElem hj]; rfl
  have c2 : (k == 0 || decide (cs.length ≤ k)) = false := by simp; apply Ar.ne2 <;> assumption
  unfold bsure at hs
  unfold wrule
  rw [c2]
  simp only [Bool.false_eq_true, if_false]
  rw [at_nat, at_nat, hg _ (by apply Ar.pred <;> assumption), hg _ hk]
  split at hs
  · cases hs
  · rename_i hc
    refine ⟨?_, by simpa using hs⟩
    unfold wruleB
    rw [if_neg hc, if_pos hs]
end Uni
namespace Uni
noncomputable def pl (x : Str) : Str := if isIn SHang x = true then "Other" else x
theorem plain_at (W : List Str) (j : Nat) : (plainS W).getD j "" = pl (W.getD j "") := by
  unfold plainS
  rw [List.getD_eq_getElem?_getD, List.getElem?_map, List.getD_eq_getElem?_getD]
  cases W[j]? with
  | none => decide
  | some x => rfl
theorem plain_at' (W : List Str) (p : Int) : at' (plainS W) p = pl (at' W p) := by
  unfold at'
  split
  · exact plain_at W _
  · decide
theorem pl_eq {x z : Str} (h1 : isIn SHang z = false) (h2 : z ≠ "Other") : (pl x == z) = (x == z) := by
  unfold pl
  by_cases c : isIn SHang x = true
  · rw [if_pos c, Bool.eq_iff_iff, beq_iff_eq, beq_iff_eq]
    refine ⟨fun q => absurd q.symm h2, fun q => ?_⟩
    rw [q, h1] at c; cases c
  · rw [if_neg c]
theorem pl_isIn {x : Str} {L : List Str} (h : ∀ z ∈ L, isIn SHang z = false ∧ z ≠ "Other") : isIn L (pl x) = isIn L x := by
  induction L with
  | nil => rfl
  | cons z L ih =>
    have e := pl_eq (x := x) (h z (.head _)).1 (h z (.head _)).2
    have e' : (z == pl x) = (z == x) := by
      rw [Bool.eq_iff_iff, beq_iff_eq, beq_iff_eq]
      rw [Bool.eq_iff_iff, beq_iff_eq, beq_iff_eq] at e
      exact ⟨fun q => (e.mp q.symm).symm, fun q => (e.mpr q.symm).symm⟩
    have ih := ih fun z hz => h z (.tail _ hz)
    unfold isIn at ih ⊢
    rw [List.any_cons, List.any_cons, e', ih]
theorem drop_count (x : Str) : ∀ l : List Str, l.drop (countW x l) = l.dropWhile (· == x)
  | [] => rfl
  | a :: l => by
    have ih := drop_count x l
    unfold countW at ih ⊢
    rw [List.takeWhile_cons, List.dropWhile_cons]
    by_cases c : (a == x) = true
    · rw [if_pos c, if_pos c, List.length_cons, List.drop_succ_cons, ih]
    · rw [if_neg c, if_neg c]; rfl
theorem skip_drop {W : List Str} {x : Str} (hx : x ≠ "") (h1 : isIn SHang x = false) (h2 : x ≠ "Other") : ∀ q, (revK (sK W) (plainS W) q ++ em2).dropWhile (· == x) = revK (sK W) (plainS W) (prevK (notK W x) q + 1).toNat ++ em2
  | 0 => by
    have : (("" : Str) == x) = false := by rw [beq_eq_false_iff_ne]; exact fun q => hx q.symm
    show List.dropWhile (· == x) em2 = _
    rw [List.dropWhile_cons, if_neg (by rw [this]; decide)]; rfl
  | q + 1 => by
    have ih := skip_drop (W := W) hx h1 h2 q
    have e1 : prevK (notK W x) (q + 1) = if notK W x q then (q : Int) else prevK (notK W x) q := rfl
    rw [e1, revK]
    by_cases hk : sK W q = true
    · rw [if_pos hk, List.cons_append, List.dropWhile_cons, plain_at]
      by_cases c : (pl (W.getD q "") == x) = true
      · have c' := c
        rw [pl_eq h1 h2] at c'
        have hn : notK W x q = false := by unfold notK; rw [hk, c']; rfl
        rw [if_pos c, if_neg (by rw [hn]; decide), ih]
      · have c' := Bool.eq_false_iff.mpr c
        rw [pl_eq h1 h2] at c'
        have hn : notK W x q = true := by unfold notK; rw [hk, c']; rfl
        rw [if_neg c, if_pos hn, show ((q : Int) + 1).toNat = q + 1 from Ar.tnA _, revK, if_pos hk, List.cons_append, plain_at]
    · have hn : notK W x q = false := by unfold notK; rw [Bool.eq_false_iff.mpr hk]; rfl
      rw [if_neg hk, if_neg (by rw [hn]; decide), ih]
theorem revK_far2 (k : Nat → Bool) (V : List Str) (i : Nat) : (revK k V i ++ em2).getD 0 "" = at' V (prevK k i) := by
  rw [revK_prev]
  split
  · rename_i h
    unfold at'
    rw [if_neg (by apply Ar.l6 <;> assumption)]; rfl
  · rfl
theorem prevK_at (k : Nat → Bool) (p : Int) (h : -1 ≤ p) (hk : 0 ≤ p → k p.toNat = true) : prevK k (p + 1).toNat = p := by
  by_cases h0 : 0 ≤ p
  · rw [show (p + 1).toNat = p.toNat + 1 by apply Ar.x1 <;> assumption, prevK, if_pos (hk h0)]; apply Ar.l9 <;> assumption
  · rw [show (p + 1).toNat = 0 by lia, show p = -1 by apply Ar.l3 <;> assumption]; rfl
theorem notK_sK {W : List Str} {x : Str} {j : Nat} (h : notK W x j = true) : sK W j = true := by
  unfold notK at h
  rw [Bool.and_eq_true] at h; exact h.1
theorem ahead_eq (W : List Str) (i : Nat) (hi : i ≤ W.length) : ((leftL SHang SParas W (plainS W) i ++ em2).getD (countW "Sp" (leftL SHang SParas W (plainS W) i ++ em2) + countW "Close" ((leftL SHang SParas W (plainS W) i ++ em2).drop (countW "Sp" (leftL SHang SParas W (plainS W) i ++ em2)))) "") = pl (at' W (tailS W i)) := by
  rw [leftL_eq _ _ _ _ hi]
  have e1 := skip_drop (W := W) (x := "Sp") (by decide) (by decide) (by decide) i
  generalize hl : revK (keptK SHang SParas W) (plainS W) i ++ em2 = l at *
  have hg : ∀ (l : List Str) (a b : Nat), l.getD (a + b) "" = ((l.drop a).drop b).getD 0 "" := fun l a b => by
    rw [List.drop_drop, getD_drop]; congr 1
  rw [hg, drop_count, drop_count, e1]
  have ht : tailS W i = prevK (notK W "Close") (prevK (notK W "Sp") i + 1).toNat := by
    unfold tailS skipS baseS
    rw [Int.toNat_natCast]
    have hp := prevK_lt (sK W) i
    rw [prevK_skip (notK W "Sp") (prevK (sK W) i + 1).toNat i (by apply Ar.q4 <;> assumption) fun j h1 h2 => ?_]
    have : sK W j = false := by
      cases c : sK W j with
      | false => rfl
      | true =>
        exfalso
        have mono : ∀ m, j < m → m ≤ i → (j : Int) ≤ prevK (sK W) m := fun m => by
          induction m with
          | zero => intro q; lia
          | succ m ih =>
            intro q1 q2
            rw [prevK]
            split
            · lia
            · rename_i cm
              have : j ≠ m := fun q => cm (q ▸ c)
              exact ih (by apply Ar.q2 <;> assumption) (by apply Ar.j9 <;> assumption)
        have := mono i h2 (Nat.le_refl _)
        lia
    unfold notK; rw [this]; rfl
  have e2 := skip_drop (W := W) (x := "Close") (by decide) (by decide) (by decide) (prevK (notK W "Sp") i + 1).toNat
  rw [e2, revK_far2, ← ht, ← plain_at']
  congr 1
  refine prevK_at _ _ ?_ fun h => ?_
  · rw [ht]; exact (prevK_lt _ _).2
  · refine notK_sK (x := "Close") ?_
    rw [ht] at h ⊢
    exact prevK_k _ _ h
theorem stops_eq (W : List Str) : ∀ (m q : Nat), q + m = W.length → (((List.range' q m).filter (sK W)).map fun j => (plainS W).getD j "").filter (isIn SStops ·) = (W.drop q).filter (isIn SStops ·)
  | 0, q, h => by rw [List.drop_eq_nil_of_le (by apply Ar.j4 <;> assumption)]; rfl
  | m + 1, q, h => by
    have hd : W.drop q = W.getD q "" :: W.drop (q + 1) := by
      rw [List.drop_eq_getElem_cons (by apply Ar.f4 <;> assumption), List.getD_eq_getElem?_getD, List.getElem?_eq_getElem (by apply Ar.f4 <;> assumption)]; rfl
    have ih := stops_eq W m (q + 1) (by apply Ar.d4 <;> assumption)
    have hst : ∀ z ∈ SStops, isIn SHang z = false ∧ z ≠ "Other" := by decide
    rw [List.range'_succ, List.filter_cons, hd, List.filter_cons (xs := W.drop (q + 1))]
    by_cases hk : sK W q = true
    · rw [if_pos hk, List.map_cons, List.filter_cons, ih, plain_at, pl_isIn hst]
      by_cases c : isIn SStops (W.getD q "") = true
      · rw [if_pos c, if_pos c]
        congr 1
        unfold pl
        rw [if_neg]
        intro q'
        have hh : ∀ z ∈ SHang, isIn SStops z = false := by decide
        have : W.getD q "" ∈ SHang := by
          unfold isIn at q'
          rw [List.any_eq_true] at q'
          obtain ⟨z, hz, e⟩ := q'
          rw [← beq_iff_eq.mp e]; exact hz
        rw [hh _ this] at c; cases c
      · rw [if_neg c, if_neg c]
    · rw [if_neg hk, ih, if_neg]
      intro c
      have hh : ∀ z ∈ SHang, isIn SStops z = false := by decide
      have : isIn SHang (W.getD q "") = true := by
        cases e : isIn SHang (W.getD q "") with
        | true => rfl
        | false => exfalso; apply hk; simp only [keptK, e, Bool.not_false, Bool.true_or]
      have : W.getD q "" ∈ SHang := by
        unfold isIn at this
        rw [List.any_eq_true] at this
        obtain ⟨z, hz, e⟩ := this
        rw [← beq_iff_eq.mp e]; exact hz
      rw [hh _ this] at c; cases c
theorem find_filter (p : Str → Bool) : ∀ l : List Str, l.find? p = (l.filter p).head?
  | [] => rfl
  | a :: l => by
    rw [List.find?_cons, List.filter_cons]
    cases h : p a with
    | true => rfl
    | false =>
      show l.find? p = _
      rw [find_filter p l]; rfl
theorem low_eq (W : List Str) (i : Nat) (hi : i ≤ W.length) : (((rightL SHang SParas W (plainS W) i).filter (isIn SStops ·)).take 1 == [("Lower" : Str)]) = goesS W i := by
  rw [rightL_eq, stops_eq W _ _ (by apply Ar.as2 <;> assumption)]
  unfold goesS
  rw [find_filter]
  cases (W.drop i).filter (isIn SStops ·) with
  | nil => rfl
  | cons a l =>
    show ([a] == [("Lower" : Str)]) = (a == "Lower")
    simp
theorem sent_final {a b before bb t : Str} {goes : Bool} (hrow : isIn STerms t = true → isIn SRow before = true) :
    sbrkB a b before (if isIn STerms t then t else "") (if before != "ATerm" then false else if b == "Upper" then isIn SCased bb else b == "Numeric") goes =
    lawSB a b b (pl before) (pl bb) (pl t) goes (!(pl before == "Sp")) := by
  have e1 : (pl before == "ATerm") = (before == "ATerm") := pl_eq (by decide) (by decide)
  have e2 : (pl before == "Sp") = (before == "Sp") := pl_eq (by decide) (by decide)
  have e3 : isIn SCased (pl bb) = isIn SCased bb := pl_isIn (by decide)
  have e4 : isIn STerms (pl t) = isIn STerms t := pl_isIn (by decide)
  have e5 : (pl t == "ATerm") = (t == "ATerm") := pl_eq (by decide) (by decide)
  unfold lawSB
  rw [e1, e2, e3, e4, e5]
  unfold sbrkB
  by_cases ha : isIn SParas a = true
  · rw [if_pos ha, if_pos ha]
    cases c1 : (a == "CR") <;> cases c2 : (b == "LF") <;> simp [bne, c1, c2]
  have hcr : (a == "CR") = false := by
    cases c : (a == "CR") with
    | false => rfl
    | true => exfalso; apply ha; rw [beq_iff_eq.mp c]; decide
  have ff : ¬ (false = true) := by decide
  rw [if_neg ha, if_neg ha, hcr, Bool.false_and, if_neg ff]
  have hnever : isIn SNever b = (isIn SHang b || isIn LSN b) := by
    simp [isIn, Bool.or_assoc]
  rw [hnever]
  by_cases hh : isIn SHang b = true
  · rw [hh, Bool.true_or, if_pos rfl, if_pos rfl]
  rw [Bool.eq_false_iff.mpr hh, Bool.false_or, if_neg ff]
  by_cases hn : isIn LSN b = true
  · rw [if_pos hn, hn]
    simp
  rw [if_neg hn, Bool.eq_false_iff.mpr hn, Bool.false_or]
  have habb : (if before != "ATerm" then false else if b == "Upper" then isIn SCased bb else b == "Numeric") = (before == "ATerm" && (b == "Numeric" || (isIn SCased bb && b == "Upper"))) := by
    rw [bne]
    cases before == "ATerm" with
    | false => rfl
    | true =>
      by_cases c : b = "Upper"
      · subst c
        have q1 : (("Upper" : Str) == "Upper") = true := by decide
        have q2 : (("Upper" : Str) == "Numeric") = false := by decide
        rw [q1, q2]; simp
      · have q1 : (b == "Upper") = false := by simpa using c
        rw [q1]; simp
  rw [habb]
  generalize (before == "ATerm" && (b == "Numeric" || (isIn SCased bb && b == "Upper"))) = abb
  by_cases ht : isIn STerms t = true
  · rw [if_pos ht, ht, hrow ht]
    have : t = "ATerm" ∨ t = "STerm" := by
      simp only [isIn, List.any_cons, List.any_nil, Bool.or_false, Bool.or_eq_true, beq_iff_eq] at ht
      exact ht.imp Eq.symm Eq.symm
    have q : (t == "STerm" || (t == "ATerm" && !goes)) = !(t == "ATerm" && goes) := by
      rcases this with h | h <;> subst h <;> cases goes <;> decide
    rw [q]
    cases abb <;> cases (t == "ATerm" && goes) <;> cases (b == "Close") <;> cases h : (before == "Sp") <;> simp [bne, h]
  · rw [if_neg ht, Bool.eq_false_iff.mpr ht]
    have q1 : (("" : Str) == "STerm" || (("" : Str) == "ATerm" && !goes)) = false := by cases goes <;> decide
    rw [q1]
    simp
theorem sent_law {S : List Str} {i : Nat} (h1 : 1 ≤ i) (hi : i < S.length) : sbrk S i = lawS S i := by
  have hcnd : (i == 0 || i == S.length) = false := by simp; apply Ar.ne <;> assumption
  unfold sbrk lawS
  rw [hcnd]
  simp only [Bool.false_eq_true, if_false]
  rw [at_nat, at_nat, ahead_eq S i (by exact Nat.le_of_lt ‹_›), low_eq S i (by exact Nat.le_of_lt ‹_›)]
  have hlt := baseS_lt S i
  have hbe : baseS S i = prevK (sK S) i := by unfold baseS; rw [Int.toNat_natCast]
  have hb0 : 0 ≤ baseS S i := by
    rw [hbe]
    have mono : ∀ m, 1 ≤ m → 0 ≤ prevK (sK S) m := fun m => by
      induction m with
      | zero => intro q; lia
      | succ m ih =>
        intro _
        rw [prevK]
        split
        · exact Int.natCast_nonneg _
        · rename_i c
          cases m with
          | zero => exact absurd (by unfold sK keptK; simp) c
          | succ m => exact ih (by lia)
    exact mono i h1
  have hL : leftL SHang SParas S (plainS S) i = pl (at' S (baseS S i)) :: revK (sK S) (plainS S) (baseS S i).toNat := by
    rw [leftL_eq _ _ _ _ (by exact Nat.le_of_lt ‹_›), hbe, ← plain_at']
    exact revK_at _ _ (by rw [← hbe]; exact hb0)
  have l0 : (leftL SHang SParas S (plainS S) i ++ em2).getD 0 "" = pl (at' S (baseS S i)) := by rw [hL]; rfl
  have l1 : (leftL SHang SParas S (plainS S) i ++ em2).getD 1 "" = pl (at' S (baseS S (baseS S i))) := by
    rw [hL, List.cons_append, List.getD_cons_succ, revK_far2, plain_at']; rfl
  have lz : (countW "Sp" (leftL SHang SParas S (plainS S) i ++ em2) == 0) = !(pl (at' S (baseS S i)) == "Sp") := by
    rw [hL, List.cons_append]
    unfold countW
    rw [List.takeWhile_cons]
    cases (pl (at' S (baseS S i)) == "Sp" : Bool) with
    | true => simp
    | false => rfl
  rw [l0, l1, lz]
  have hab : abbrS S i = (if at' S (baseS S i) != "ATerm" then false else if S.getD i "" == "Upper" then isIn SCased (at' S (baseS S (baseS S i))) else S.getD i "" == "Numeric") := by
    unfold abbrS
    rw [at_nat]
  rw [hab]
  have hrow : isIn STerms (at' S (tailS S i)) = true → isIn SRow (at' S (baseS S i)) = true := fun h => by
    by_cases c1 : (at' S (baseS S i) == "Sp") = true
    · rw [beq_iff_eq.mp c1]; decide
    by_cases c2 : (at' S (baseS S i) == "Close") = true
    · rw [beq_iff_eq.mp c2]; decide
    have hk : 0 ≤ baseS S i → sK S (baseS S i).toNat = true := fun q => by rw [hbe] at q ⊢; exact prevK_k _ _ q
    have s1 : skipS S "Sp" (baseS S i) = baseS S i := by rw [skipS_step (by decide) _ hlt.2 hk, if_neg c1]
    have s2 : skipS S "Close" (baseS S i) = baseS S i := by rw [skipS_step (by decide) _ hlt.2 hk, if_neg c2]
    unfold tailS at h
    rw [s1, s2] at h
    simp only [isIn, List.any_cons, List.any_nil, Bool.or_false, Bool.or_eq_true, beq_iff_eq] at h
    rcases h with h | h <;> rw [← h] <;> decide
  by_cases hp : isIn SParas (S.getD (i - 1) "") = true
  · -- the place behind a paragraph's end: both by the two classes alone
    have e2 : ∀ y l0 l1 ah lo bz, lawSB (S.getD (i - 1) "") (S.getD i "") y l0 l1 ah lo bz = (S.getD (i - 1) "" != "CR" || S.getD i "" != "LF") := fun y l0 l1 ah lo bz => by
      unfold lawSB
      rw [if_pos hp]
      cases c1 : (S.getD (i - 1) "" == "CR" : Bool) <;> cases c2 : (S.getD i "" == "LF" : Bool) <;> simp only [bne, c1, c2] <;> rfl
    rw [e2]; unfold sbrkB; rw [if_pos hp]
  by_cases hh : isIn SHang (S.getD i "") = true
  · have hcr : (S.getD (i - 1) "" == "CR" && S.getD i "" == "LF") = false := by
      cases c : (S.getD (i - 1) "" == "CR" : Bool) with
      | false => rfl
      | true => exfalso; apply hp; rw [beq_iff_eq.mp c]; decide
    have hnever : isIn SNever (S.getD i "") = true := by
      have : isIn SNever (S.getD i "") = (isIn SHang (S.getD i "") || isIn LSN (S.getD i "")) := by simp only [isIn, List.any_cons, List.any_nil, Bool.or_false, Bool.or_assoc]
      rw [this, hh, Bool.true_or]
    unfold sbrkB lawSB
    rw [if_neg hp, if_neg hp, if_pos hnever, hcr, if_pos hh]
    rfl
  have hy : (rightL SHang SParas S (plainS S) i).getD 0 "" = S.getD i "" := by
    rw [rightL_eq, show S.length - i = (S.length - (i + 1)) + 1 by apply Ar.suc <;> assumption, List.range'_succ, List.filter_cons, if_pos, List.map_cons, List.getD_cons_zero, plain_at]
    · unfold pl; rw [if_neg hh]
    · simp only [keptK, Bool.eq_false_iff.mpr hh, Bool.not_false, Bool.true_or]
  rw [hy]
  exact sent_final hrow
end Uni
namespace Uni
theorem isB_in {m : Nat} {i : Nat} {b : Bool} (h : i ≤ m) (hm : 0 < m) : isB m i b = (decide (i = 0) || (decide (i = m) || b)) := by
  unfold isB
  have e : ((m : Int) == 0 || (decide ((i : Int) < 0) || decide ((m : Int) < (i : Int)))) = false := by
    simp only [Bool.or_eq_false_iff, beq_eq_false_iff_ne, decide_eq_false_iff_not]; lia
  rw [if_neg (by rw [e]; decide)]
  have e1 : ((i : Int) == 0) = decide (i = 0) := by rw [Bool.eq_iff_iff, beq_iff_eq, decide_eq_true_eq]; exact Ar.iZ
  have e2 : ((i : Int) == (m : Int)) = decide (i = m) := by rw [Bool.eq_iff_iff, beq_iff_eq, decide_eq_true_eq]; lia
  rw [e1, e2]
theorem bounds_in {m : Nat} {R : Nat → Bool} (hm : 0 < m) : bounds m R = (List.range (m + 1)).filter fun i => decide (i = 0) || (decide (i = m) || R i) := by
  unfold bounds
  refine List.filter_congr fun i hi => ?_
  have := List.mem_range.mp hi
  exact isB_in (by apply Ar.x4 <;> assumption) hm
theorem boundsI_lot (m : Nat) (R : Nat → Bool) : boundsI m R = (if 0 < m then [(0 : Int)] else []) ++ (((List.range (m - 1)).filter fun i => R (i + 1)).map fun i : Nat => 1 + (i : Int)) ++ (if 0 < m then [(m : Int)] else []) := by
  by_cases hm : 0 < m
  · rw [if_pos hm, if_pos hm]
    unfold boundsI
    rw [bounds_in hm]
    obtain ⟨j, rfl⟩ : ∃ j, m = j + 1 := ⟨m - 1, by apply Ar.k7 <;> assumption⟩
    rw [List.range_succ, List.filter_append, List.range_succ_eq_map, List.filter_cons, Nat.add_sub_cancel]
    simp only [decide_true, Bool.true_or, if_true]
    have e : (List.map Nat.succ (List.range j)).filter (fun i => decide (i = 0) || (decide (i = j + 1) || R i)) = ((List.range j).filter fun i => R (i + 1)).map Nat.succ := by
      rw [List.filter_map]
      congr 1
      refine List.filter_congr fun i hi => ?_
      have := List.mem_range.mp hi
      have e1 : decide (i.succ = 0) = false := by simp
      have e2 : decide (i.succ = j + 1) = false := by simp; apply Ar.j8 <;> assumption
      show (decide (i.succ = 0) || (decide (i.succ = j + 1) || R (i + 1))) = _
      rw [e1, e2]; rfl
    rw [e, List.map_append, List.map_cons, List.map_map]
    have e3 : ([j + 1] : List Nat).filter (fun i => decide (i = 0) || (decide (i = j + 1) || R i)) = [j + 1] := by
      simp
    rw [e3]
    have e4 : ((fun i : Nat => (i : Int)) ∘ Nat.succ) = fun i : Nat => 1 + (i : Int) := by funext i; show ((i + 1 : Nat) : Int) = _; lia
    rw [e4]; rfl
  · rw [if_neg hm, if_neg hm]
    obtain rfl : m = 0 := by lia
    rfl
theorem sureI_mem {cs : List Int} {U : Int → Int → Bool} {k : Int} (h : k ∈ sureI cs U) : ∃ i : Nat, k = (i + 1 : Nat) ∧ i + 1 < cs.length ∧ U (cs.getD i default) (cs.getD (i + 1) default) = true := by
  unfold sureI at h
  obtain ⟨i, hi, rfl⟩ := List.mem_map.mp h
  obtain ⟨h1, h2⟩ := List.mem_filter.mp hi
  have := List.mem_range.mp h1
  exact ⟨i, by exact Ar.l8, by apply Ar.b4 <;> assumption, h2⟩
theorem in_bounds {m k : Nat} {R : Nat → Bool} (h1 : 1 ≤ k) (hk : k < m) (hR : R k = true) : (k : Int) ∈ boundsI m R := by
  unfold boundsI
  rw [bounds_in (by apply Ar.y2 <;> assumption)]
  refine List.mem_map.mpr ⟨k, List.mem_filter.mpr ⟨List.mem_range.mpr (by apply Ar.ls <;> assumption), ?_⟩, rfl⟩
  rw [hR]; simp
theorem split_bounds {cs : List Int} {R : List Int → Nat → Bool} {k : Nat} (h1 : 1 ≤ k) (hk : k < cs.length) (hs : R cs k = true) (hl : ∀ i, 1 ≤ i → i < k → R (cs.take k) i = R cs i) (hr : ∀ j, 1 ≤ j → k + j < cs.length → R (cs.drop k) j = R cs (k + j)) :
    boundsI (cs.take k).length (R (cs.take k)) ++ ((boundsI (cs.drop k).length (R (cs.drop k))).drop 1).map (fun q => (k : Int) + q) = boundsI cs.length (R cs) := by
  have e1 : (cs.take k).length = k := by rw [List.length_take]; apply Ar.mn <;> assumption
  have e2 : (cs.drop k).length = cs.length - k := by rw [List.length_drop]
  rw [e1, e2]
  unfold boundsI
  rw [bounds_in (by apply Ar.j6 <;> assumption), bounds_in (by apply Ar.r2 <;> assumption), bounds_in (by apply Ar.y2 <;> assumption)]
  obtain ⟨n, hn⟩ : ∃ n, cs.length = k + (n + 1) := ⟨cs.length - k - 1, by apply Ar.f3 <;> assumption⟩
  have er : List.range ((k + 1) + (n + 1)) = List.range (k + 1) ++ (List.range (n + 1)).map (fun x => k + 1 + x) := List.range_add
  rw [hn, show k + (n + 1) - k = n + 1 by exact Ar.sc, show k + (n + 1) + 1 = (k + 1) + (n + 1) by exact Ar.k5, er, List.filter_append (l₁ := List.range (k + 1)), List.map_append]
  congr 1
  · congr 1
    refine List.filter_congr fun i hi => ?_
    have := List.mem_range.mp hi
    by_cases c0 : i = 0
    · subst c0; simp
    · by_cases c1 : i = k
      · subst c1; simp [hs]
      · rw [hl i (by apply Ar.n0 <;> assumption) (by apply Ar.q2 <;> assumption)]
        have e3 : decide (i = k + (n + 1)) = false := by simp; lia
        have e4 : decide (i = k) = false := by simpa using c1
        rw [e3, e4]
  · rw [List.range_succ_eq_map (n := n + 1), List.filter_cons]
    simp only [decide_true, Bool.true_or, if_true]
    rw [List.map_cons, List.drop_succ_cons, List.drop_zero, List.filter_map, List.filter_map, List.map_map, List.map_map, List.map_map]
    have e5 : (List.range (n + 1)).filter ((fun i => decide (i = 0) || (decide (i = n + 1) || R (cs.drop k) i)) ∘ Nat.succ) = (List.range (n + 1)).filter ((fun i => decide (i = 0) || (decide (i = k + (n + 1)) || R cs i)) ∘ fun x => k + 1 + x) := by
      refine List.filter_congr fun i hi => ?_
      have := List.mem_range.mp hi
      show (decide (i + 1 = 0) || (decide (i + 1 = n + 1) || R (cs.drop k) (i + 1))) = (decide (k + 1 + i = 0) || (decide (k + 1 + i = k + (n + 1)) || R cs (k + 1 + i)))
      have a1 : decide (i + 1 = 0) = false := by simp
      have a2 : decide (k + 1 + i = 0) = false := by simp
      rw [a1, a2]
      by_cases c : i = n
      · subst c
        have a3 : decide (i + 1 = i + 1) = true := by simp
        have a4 : decide (k + 1 + i = k + (i + 1)) = true := by simp; exact Ar.k4
        rw [a3, a4]; rfl
      · have a3 : decide (i + 1 = n + 1) = false := by simp; assumption
        have a4 : decide (k + 1 + i = k + (n + 1)) = false := by simp; lia
        rw [a3, a4, hr (i + 1) (by lia) (by lia), show k + (i + 1) = k + 1 + i by exact Ar.k3]
    rw [e5]
    refine List.map_congr_left fun i _ => ?_
    show (k : Int) + ((i + 1 : Nat) : Int) = ((k + 1 + i : Nat) : Int)
    lia
theorem cluster_ends (T : Tb) (cs : List Int) : cbreak T cs 0 = decide (0 < cs.length) ∧ cbreak T cs cs.length = decide (0 < cs.length) := by
  unfold cbreak
  constructor
  · cases cs <;> rfl
  · have : (cs.length == 0 || cs.length == cs.length) = true := by simp
    rw [if_pos this]
    cases cs <;> simp
theorem word_ends (T : Tb) (cs : List Int) : wrule T cs 0 = decide (0 < cs.length) ∧ wrule T cs cs.length = decide (0 < cs.length) := by
  unfold wrule
  constructor
  · rfl
  · have : (cs.length == 0 || decide (cs.length ≤ cs.length)) = true := by simp
    rw [if_pos this]
theorem sent_ends (S : List Str) : sbrk S 0 = decide (0 < S.length) ∧ sbrk S S.length = decide (0 < S.length) := by
  unfold sbrk
  constructor
  · rfl
  · have : (S.length == 0 || S.length == S.length) = true := by simp
    rw [if_pos this]
theorem lot_congr {m : Nat} {R Q : Nat → Bool} (h : ∀ i, 1 ≤ i → i < m → R i = Q i) : (List.range (m - 1)).filter (fun i => R (i + 1)) = (List.range (m - 1)).filter (fun i => Q (i + 1)) :=
  List.filter_congr fun i hi => h (i + 1) (by lia) (by have := List.mem_range.mp hi; apply Ar.b4 <;> assumption)
end Uni
namespace Uni
theorem maps_frz {fz : Os} : ∀ L : List RmE, (∀ e ∈ L, (e.a, Ow.inst 249 e.dx (rmF e.m)) ∈ fz) → Frze fz (kvO L) ((msOf L).map fun p => (p.1, rmD p.2))
  | [], _ => .nil
  | e :: L, h => .cons (.inst (h e (.head _)) (Frze.refl _)) (maps_frz L fun q hq => h q (.tail _ hq))
theorem mOs_mem {L : List RmE} {e : RmE} (h : e ∈ L) : (e.a, Ow.inst 249 e.dx (rmF e.m)) ∈ mOs L := List.mem_map.mpr ⟨e, h, rfl⟩
noncomputable def lawT (ms : List (Str × Rm)) (rows : List Row) (near far : List Str) (m : Nat) : Tb where
  ms := ms
  cl := fun c => ⟨(rows.getD (c - 97).toNat default).1, (rows.getD (c - 97).toNat default).2.1, (rows.getD (c - 97).toNat default).2.2, near.getD (c - 97).toNat "", far.getD (c - 97).toNat ""⟩
  ok := fun c => ∃ i : Nat, i < m ∧ c = 97 + (i : Int)
section
variable {rows : List Row} {near far : List Str} {L : List RmE} {m : Nat}
theorem lawT_hs (h : LoopOk rows near far L m) {t : Nat} (ht : t < 5) {i : Nat} (hi : i < m) : Hs (msOf L) (nm t) (97 + (i : Int)) (Vs rows near far t i) := by
  have hc : cnt m 0 t = m := by unfold cnt; rw [if_neg (by lia)]
  have h1 := h.d.has t ht (by lia)
  have h2 := h.d.g t ht
  obtain ⟨q, hq⟩ := Option.isSome_iff_exists.mp h1
  have e : getM (msOf L) (nm t) = q := by unfold getM; rw [hq]; rfl
  rw [e, hc] at h2
  exact ⟨q, hq, h2.ok, h2.get i hi⟩
theorem lawT_ok (h : LoopOk rows near far L m) (hm : m ≤ 7) : TbOk (lawT (msOf L) rows near far m) where
  lo := fun ⟨i, hi, e⟩ => by lia
  hi := fun ⟨i, hi, e⟩ => by lia
  g := fun {c} hZ => by
    obtain ⟨i, hi, e⟩ := hZ
    subst e
    have := lawT_hs h (t := 0) (by lia) hi
    simp only [lawT, show (97 + (i : Int) - 97).toNat = i from Ar.tn97 _]; exact this
  i := fun {c} hZ => by
    obtain ⟨i, hi, e⟩ := hZ
    subst e
    have := lawT_hs h (t := 1) (by lia) hi
    simp only [lawT, show (97 + (i : Int) - 97).toNat = i from Ar.tn97 _]; exact this
  e := fun {c} hZ => by
    obtain ⟨i, hi, e⟩ := hZ
    subst e
    have := lawT_hs h (t := 2) (by lia) hi
    simp only [lawT, show (97 + (i : Int) - 97).toNat = i from Ar.tn97 _]; exact this
  w := fun {c} hZ => by
    obtain ⟨i, hi, e⟩ := hZ
    subst e
    have := lawT_hs h (t := 3) (by lia) hi
    simp only [lawT, show (97 + (i : Int) - 97).toNat = i from Ar.tn97 _]; exact this
  s := fun {c} hZ => by
    obtain ⟨i, hi, e⟩ := hZ
    subst e
    have := lawT_hs h (t := 4) (by lia) hi
    simp only [lawT, show (97 + (i : Int) - 97).toNat = i from Ar.tn97 _]; exact this
theorem page_len (m : Nat) : (pageOf m).length = m := by simp [pageOf]
theorem page_mem {m : Nat} {c : Int} (h : c ∈ pageOf m) : ∃ i : Nat, i < m ∧ c = 97 + (i : Int) := by
  unfold pageOf at h
  obtain ⟨i, hi, rfl⟩ := List.mem_map.mp h
  exact ⟨i, List.mem_range.mp hi, rfl⟩
theorem page_tx (hm : m ≤ 7) : TxOk (lawT (msOf L) rows near far m) (pageOf m) := ⟨fun c hc => page_mem hc, by rw [page_len]; lia⟩
theorem map_page {α : Type} {f : Int → α} {l : List α} {d : α} (hl : l.length = m) (h : ∀ i : Nat, i < m → f (97 + (i : Int)) = l.getD i d) : (pageOf m).map f = l := by
  unfold pageOf
  rw [List.map_map]
  refine List.ext_getElem (by simp [hl]) fun i h1 h2 => ?_
  rw [List.getElem_map, List.getElem_range]
  show f (97 + (i : Int)) = _
  rw [h i (by lia), List.getD_eq_getElem?_getD, List.getElem?_eq_getElem h2]; rfl
theorem row_eta (r : Row) : (r.1, r.2.1, r.2.2) = r := rfl
theorem page_rows (h : LoopOk rows near far L m) : rowsOf (lawT (msOf L) rows near far m) (pageOf m) = rows :=
  map_page (d := default) h.lr fun i hi => by
    show ((rows.getD (97 + (i : Int) - 97).toNat default).1, (rows.getD (97 + (i : Int) - 97).toNat default).2.1, (rows.getD (97 + (i : Int) - 97).toNat default).2.2) = _
    rw [show (97 + (i : Int) - 97).toNat = i from Ar.tn97 _]
theorem page_near (h : LoopOk rows near far L m) : wws (lawT (msOf L) rows near far m) (pageOf m) = near :=
  map_page (d := "") h.ln fun i hi => by
    show near.getD (97 + (i : Int) - 97).toNat "" = _
    rw [show (97 + (i : Int) - 97).toNat = i from Ar.tn97 _]
theorem page_far (h : LoopOk rows near far L m) : sss (lawT (msOf L) rows near far m) (pageOf m) = far :=
  map_page (d := "") h.lf fun i hi => by
    show far.getD (97 + (i : Int) - 97).toNat "" = _
    rw [show (97 + (i : Int) - 97).toNat = i from Ar.tn97 _]
end
noncomputable def endsL (m : Nat) : List Int := if 0 < m then [0, (m : Int)] else []
noncomputable def lotI (Q : Int → Bool) (m : Nat) : List Int := ((List.range ((m : Int) - 1).toNat).filter fun i : Nat => Q (1 + (i : Int))).map fun i : Nat => 1 + (i : Int)
noncomputable def dueI (Q : Int → Bool) (m : Nat) : List Int := (endsL m).take 1 ++ lotI Q m ++ (endsL m).drop 1
theorem due_eq {Q : Int → Bool} {R : Nat → Bool} {m : Nat} (h : ∀ i : Nat, 1 ≤ i → i < m → R i = Q (i : Int)) : dueI Q m = boundsI m R := by
  rw [boundsI_lot]
  have e : lotI Q m = ((List.range (m - 1)).filter fun i => R (i + 1)).map fun i : Nat => 1 + (i : Int) := by
    unfold lotI
    rw [show ((m : Int) - 1).toNat = m - 1 from Ar.tnS _]
    congr 1
    refine List.filter_congr fun i hi => ?_
    have := List.mem_range.mp hi
    rw [h (i + 1) (by lia) (by apply Ar.b4 <;> assumption)]
    congr 1; exact Ar.l8
  unfold dueI endsL
  rw [e]
  by_cases hm : 0 < m
  · rw [if_pos hm, if_pos hm, if_pos hm]; rfl
  · rw [if_neg hm, if_neg hm, if_neg hm]; rfl
section
variable {w : World} {n : Nat} {T : Tb} {cs : List Int} {ru : D} {p : Int}
noncomputable abbrev lookD (f : Addr) (T : Tb) : D := .meth 49 (.inst 52 [("told", .fn f), ("data", dataD T.ms)])
theorem told_C (hT : TbOk T) (hc : TxOk T cs) (hm : ∀ c ∈ cs, rowOf T c ∈ menuC) (hp : -1 ≤ p ∧ p ≤ 2000) (hru : ∀ ds, TxOk T ds → ∀ i : Nat, i ≤ ds.length → Callee w (n + 10) ru [.lst (ds.map .int), .int i] (.bool (cbreak T ds i))) :
    CallOK w (n + 15) 507 [ru, lookD 190 T, .lst (cs.map .int), .lst ((boundsI cs.length (cbreak T cs)).map .int), .int p] (.bool true) := by
  refine told_ok (n := n + 10) (R := cbreak T) (U := csure T) hp hc (.some rfl trivial fun l r hl hr => Callee.meth rfl (isSure_ok (n := n + 9) rfl (csure_ok (n := n + 2) hT hl hr))) hru (cluster_ends T cs) (fun k hk => ?_) (fun k hk => ?_)
  · obtain ⟨i, rfl, h1, h2⟩ := sureI_mem hk
    exact in_bounds (by lia) h1 (cluster_sure hm (by lia) h1 (by rw [Nat.add_sub_cancel]; exact h2)).1
  · obtain ⟨i, rfl, h1, h2⟩ := sureI_mem hk
    obtain ⟨g1, g2⟩ := cluster_sure hm (k := i + 1) (by lia) h1 (by rw [Nat.add_sub_cancel]; exact h2)
    rw [Int.toNat_natCast]
    exact split_bounds (by lia) h1 g1 (fun j hj hjk => cbreak_take T cs hj hjk h1) g2
theorem told_W (hT : TbOk T) (hc : TxOk T cs) (hp : -1 ≤ p ∧ p ≤ 2000) (hru : ∀ ds, TxOk T ds → ∀ i : Nat, i ≤ ds.length → Callee w (n + 10) ru [.lst (ds.map .int), .int i] (.bool (wrule T ds i))) :
    CallOK w (n + 15) 507 [ru, lookD 28 T, .lst (cs.map .int), .lst ((boundsI cs.length (wrule T cs)).map .int), .int p] (.bool true) := by
  refine told_ok (n := n + 10) (R := wrule T) (U := bsure T) hp hc (.some rfl trivial fun l r hl hr => Callee.meth rfl (isSure_ok (n := n + 9) rfl (bsure_ok (n := n + 2) hT hl hr))) hru (word_ends T cs) (fun k hk => ?_) (fun k hk => ?_)
  · obtain ⟨i, rfl, h1, h2⟩ := sureI_mem hk
    exact in_bounds (by lia) h1 (word_sure (T := T) (by lia) h1 (by rw [Nat.add_sub_cancel]; exact h2)).1
  · obtain ⟨i, rfl, h1, h2⟩ := sureI_mem hk
    obtain ⟨g1, g2⟩ := word_sure (T := T) (k := i + 1) (by lia) h1 (by rw [Nat.add_sub_cancel]; exact h2)
    rw [Int.toNat_natCast]
    exact split_bounds (by lia) h1 g1 (fun j hj hjk => word_take hj hjk h1 g2) (fun j hj hjk => word_drop (by lia) hj hjk g2)
theorem told_S (hT : TbOk T) (hc : TxOk T cs) (hp : -1 ≤ p ∧ p ≤ 2000) (hru : ∀ ds, TxOk T ds → ∀ i : Nat, i ≤ ds.length → Callee w (n + 10) ru [.lst (ds.map .int), .int i] (.bool (sbrk (sss T ds) i))) :
    CallOK w (n + 15) 507 [ru, .none, .lst (cs.map .int), .lst ((boundsI cs.length (sbrk (sss T cs))).map .int), .int p] (.bool true) := by
  have hno : ∀ k, k ∉ sureI cs (fun _ _ => false) := fun k hk => by
    obtain ⟨i, _, _, h⟩ := sureI_mem hk
    cases h
  have he := sent_ends (sss T cs)
  rw [sss_len] at he
  exact told_ok (n := n + 10) (T := T) (R := fun ds => sbrk (sss T ds)) (U := fun _ _ => false) hp hc .none hru he (fun k hk => absurd hk (hno k)) (fun k hk => absurd hk (hno k))
theorem lawC_okI {rows : List Row} {k : Int} (h1 : 1 ≤ k) (hi : k < rows.length) (hz : rows.length ≤ 1000) : CallOK w (n + 2) 487 [.lst (rows.map rowD), .int k] (.bool (lawC rows k.toNat)) := by
  obtain ⟨i, rfl⟩ : ∃ i : Nat, k = i := ⟨k.toNat, by lia⟩
  exact lawC_ok (by lia) (by apply Ar.ltd <;> assumption) hz
theorem lawW_okI {W : List Str} {rows : List Row} {k : Int} (h1 : 1 ≤ k) (hi : k < W.length) (hr : k < rows.length) (hz9 : W.length ≤ 900) (hzr : rows.length ≤ 1000) : CallOK w (n + 2) 497 [.lst (W.map .str), .lst (rows.map rowD), .int k] (.bool (lawW W rows k.toNat)) := by
  obtain ⟨i, rfl⟩ : ∃ i : Nat, k = i := ⟨k.toNat, by lia⟩
  exact lawW_ok (by lia) (by apply Ar.ltd <;> assumption) (by apply Ar.ltd <;> assumption) hz9 hzr
theorem lawS_okI {W : List Str} {k : Int} (h1 : 1 ≤ k) (hi : k < W.length) (hz9 : W.length ≤ 900) : CallOK w (n + 2) 502 [.lst (W.map .str), .int k] (.bool (lawS W k.toNat)) := by
  obtain ⟨i, rfl⟩ : ∃ i : Nat, k = i := ⟨k.toNat, by lia⟩
  exact lawS_ok (by lia) (by apply Ar.ltd <;> assumption) hz9
end
end Uni
namespace Uni
section
variable {w : World} {n : Nat}
set_option maxHeartbeats 4000000
theorem lm_le {α β : Type} {l : List α} (f : α → β) {i : Nat} (h : l.length = i) (hi : i < 7) : (l.map f).length ≤ 1000 := by rw [List.length_map]; apply Ar.n6 <;> assumption
theorem ix_of {n i : Nat} (h : n = i + 1) (hi : i < 7) : (0 : Int) ≤ (i : Int) ∧ (i : Int) < (n : Int) ∧ n ≤ sizeLine := by rw [sizeLine_eq]; apply Ar.q5 <;> assumption
theorem getD_app {α : Type} {l : List α} {c d : α} {q : Nat} (h : q < l.length) : (l ++ [c]).getD q d = l.getD q d := by rw [List.getD_eq_getElem?_getD, List.getElem?_append_left h, List.getD_eq_getElem?_getD]
theorem law_callM {sc : List Int} (hz : sc.length ≤ 1000) {ob : Obj} (hB : BmOk ob) : CallM w (n + 16) 512 [.lst (sc.map .int)] [(509, .raw (tabObj #[])), (4, .raw ob)] (fun d os' => d = .bool true ∧ ∃ ps, os' = [(509, .raw (tabObj ps)), (4, .raw ob)]) := by
  refine call_fnMC (ps := ["script"]) rfl rfl rfl (fun vs hl => ?_) (fun env hs hcode => ?_)
  · obtain ⟨a, rfl⟩ := L1 hl; rfl
  generalize hbase : ([(509, .raw (tabObj #[])), (4, .raw ob)] : Os) = base
  refine XM.tupE (xs := ["deck", "data"]) rfl (swOf hs rfl) rfl (.asg (.inl (kOf hs rfl)) (.asg (.inr (kOf hs rfl)) .nil)) ?_
  refine EM.tuple (P1 := fun ds os1 => ∃ dk lf ls mx x dx ma, ds = [.own dk, .own x] ∧ DeckOk ls mx ∧ os1 = hOs x dx ma [] ++ (deckO dk lf ls mx ++ base)) (EMs.cons (P0 := fun d os1 => ∃ dk lf ls mx, d = .own dk ∧ DeckOk ls mx ∧ os1 = deckO dk lf ls mx ++ base) rfl
    (EM.callN (pre := []) (os1 := []) (post := base) rfl (S.glob (kOf hs rfl) rfl rfl (Stat.fn rfl)) rfl (S.consA rfl (S.loc (kOf hs rfl) rfl rfl) Ys.nil) (ArgsOk.cons rfl) rfl (deck_ok (n := n + 14) hz) (fun d os2 ⟨dk, lf, ls, mx, e1, e2, e3, e4, e5⟩ => ⟨dk, lf, ls, mx, e1, ⟨e3, e4, e5⟩, by rw [e2]; rfl⟩))
    (fun d os1 ⟨dk, lf, ls, mx, e1, e2, e3⟩ => EMs.cons (P0 := fun d' os2 => ∃ x dx ma, d' = .own x ∧ os2 = hOs x dx ma [] ++ (deckO dk lf ls mx ++ base)) rfl (EM.callN (pre := []) (os1 := []) (post := os1) rfl (S.glob (kOf hs rfl) rfl rfl Stat.cls) rfl Ys.nil ArgsOk.nil rfl (dnew_ok (n := n + 12)) (fun d2 os2 ⟨x, e4, dx, ma, e5⟩ => ⟨x, dx, ma, e4, by rw [e5, e3]; rfl⟩))
      (fun d2 os2 ⟨x, dx, ma, e4, e5⟩ => EMs.nil ⟨dk, lf, ls, mx, x, dx, ma, by rw [e1, e4], e2, e5⟩))) (fun ds os1 hZ => ?_)
  obtain ⟨dk, lf, ls, mx, x, dx, ma, e1, e2, e3⟩ := hZ
  subst e1; subst e3
  refine ⟨by rw [sizeLine_eq]; exact Nat.le_of_ble_eq_true rfl, _, rfl, rfl, ?_⟩
  refine XM.tupE (xs := ["rows", "near", "far", "page"]) rfl rfl rfl (.asg (.inr (kOf hs rfl)) (.asg (.inr (kOf hs rfl)) (.asg (.inr (kOf hs rfl)) (.asg (.inl (kOf hs rfl)) .nil)))) ?_
  refine EM.four fun rw nr fa pg => ⟨_, rfl, rfl, ?_⟩
  refine XM.perm (os2 := deckO dk lf ls mx ++ lawR pg fa nr rw x dx ma [] [] [] (pageOf 0) [] base) ?_ ?_
  · have : (pg, Ow.lst []) :: (fa, .lst []) :: (nr, .lst []) :: (rw, .lst []) :: (hOs x dx ma [] ++ (deckO dk lf ls mx ++ base)) = ([(pg, Ow.lst []), (fa, .lst []), (nr, .lst []), (rw, .lst [])] ++ hOs x dx ma []) ++ (deckO dk lf ls mx ++ base) := rfl
    rw [this, ← List.append_assoc]
    have e2 : deckO dk lf ls mx ++ lawR pg fa nr rw x dx ma [] [] [] (pageOf 0) [] base = (deckO dk lf ls mx ++ ([(pg, Ow.lst []), (fa, .lst []), (nr, .lst []), (rw, .lst [])] ++ hOs x dx ma [])) ++ base := rfl
    rw [e2]
    exact List.Perm.append_right _ List.perm_append_comm
  refine XM.weak (r' := rl (RL dk x rw nr fa pg)) (rle_of ⟨rfl, rfl, rfl, rfl, rfl, rfl, trivial⟩) ?_
  refine XM.forR (P1 := fun b os1 => 0 ≤ b ∧ b < 7 ∧ ∃ ls mx, DeckOk ls mx ∧ os1 = deckO dk lf ls mx ++ lawR pg fa nr rw x dx ma [] [] [] (pageOf 0) [] base)
    (Inv := fun b i r1 os1 => b < 7 ∧ RLe (rl (RL dk x rw nr fa pg)) r1 ∧ ∃ ls mx rows near far L, DeckOk ls mx ∧ LoopOk rows near far L i ∧ os1 = deckO dk lf ls mx ++ lawR pg fa nr rw x dx ma rows near far (pageOf i) L base)
    (.inl (kOf hs rfl)) (kOf hs rfl) rfl rfl (fun _ => rfl) ?_ (fun b os1 ⟨h0, h1, ls, mx, h2, h3⟩ => ?_) (fun b i r1 os1 hi hI => ?_) (fun b r1 os1 hI => ?_)
  · refine EM.mono (law_draw (n := n + 13) (many := 7) rfl (S.glob (kOf hs rfl) rfl rfl (Stat.fn rfl)) (S.consA rfl (S.loc (kOf hs rfl) rfl rfl) (S.consA rfl Y.int Ys.nil)) (ArgsOk.cons rfl) (by decide) e2) fun d os1 ⟨v, ls', mx', g1, g2, g3, g4, g5⟩ => ⟨v, g1, by lia, by apply Ar.n4 <;> assumption, g2, g3, ls', mx', g4, g5⟩
  · exact ⟨h1, fun _ _ e => e, ls, mx, [], [], [], [], h2, ⟨rfl, rfl, rfl, by simp, by simp, by simp, DI.init _⟩, h3⟩
  · obtain ⟨hb7, hr, ls, mx, rows, near, far, L, hk, hL, ho⟩ := hI
    subst ho
    refine XM.weak (rset_le hr "k" _) ?_
    have hi7 : i < 7 := by apply Ar.r4 <;> assumption
    have hrl := hL.lr
    have hnl := hL.ln
    have hfl := hL.lf
    refine XM.exprE (interOf hs rfl) rfl (EM.append (l0 := rows.map rowD) (lb := rw) (P1 := fun d os1 => ∃ c ls' mx', c ∈ menuC ∧ d = rowD c ∧ DeckOk ls' mx' ∧ os1 = deckO dk lf ls' mx' ++ lawR pg fa nr rw x dx ma rows near far (pageOf i) L base)
      (P0 := fun d os1 => ∃ c ls' mx', c ∈ menuC ∧ DeckOk ls' mx' ∧ os1 = deckO dk lf ls' mx' ++ lawR pg fa nr rw x dx ma (rows ++ [c]) near far (pageOf i) L base) rfl rfl ⟨_, rfl⟩ (YM.of (S.cell (kOf hs rfl) rfl rfl)) (by simp)
      (EM.itemL (l := menuC.map rowD) (S.callN rfl (S.glob (kOf hs rfl) rfl rfl (Stat.fn rfl)) Ys.nil ArgsOk.nil (S.fnC rfl (lclusters_ok (n := n + 14)))) (EM.mono (law_draw (n := n + 13) (many := 18) rfl (S.glob (kOf hs rfl) rfl rfl (Stat.fn rfl)) (S.consA rfl (S.loc (kOf hs rfl) rfl rfl) (S.consA rfl Y.int Ys.nil)) (ArgsOk.cons rfl) (by decide) hk) fun d os1 ⟨v, ls', mx', g1, g2, g3, g4, g5⟩ => ?_) (fun _ _ => rfl))
      (fun d os1 ⟨c, ls', mx', g1, g2, g3, g4⟩ => ⟨[(dk, .dct [("left", .own lf), ("mixed", .int mx')]), (lf, .lst (ls'.map .int)), (pg, .lst ((pageOf i).map .int)), (fa, .lst (far.map .str)), (nr, .lst (near.map .str))], rows.map rowD, dOs x dx ma L ++ base, g4, lm_le _ hrl hi7, c, ls', mx', g1, g3, ?_⟩)) (fun d os1 hZ => ?_)
    · obtain ⟨c, hc, he⟩ := menu_pick menuC rowD g2 g3
      exact ⟨v, g1, g2, by apply Ar.n1 <;> assumption, _, he, c, ls', mx', hc, rfl, g4, g5⟩
    · rw [g2, show ([rowD c] : List D) = [c].map rowD from rfl, ← List.map_append]; rfl
    obtain ⟨c, ls', mx', g1, g2, g3⟩ := hZ
    subst g3
    clear hk
    generalize hrows : rows ++ [c] = rows'
    have hrl' : rows'.length = i + 1 := by rw [← hrows, List.length_append, hrl]; rfl
    refine XM.exprE (interOf hs rfl) rfl (EM.append (l0 := near.map .str) (lb := nr) (P1 := fun d os1 => ∃ c ls' mx', c ∈ menuW ∧ d = .str c ∧ DeckOk ls' mx' ∧ os1 = deckO dk lf ls' mx' ++ lawR pg fa nr rw x dx ma rows' near far (pageOf i) L base)
      (P0 := fun d os1 => ∃ c ls' mx', c ∈ menuW ∧ DeckOk ls' mx' ∧ os1 = deckO dk lf ls' mx' ++ lawR pg fa nr rw x dx ma rows' (near ++ [c]) far (pageOf i) L base) rfl rfl ⟨_, rfl⟩ (YM.of (S.cell (kOf hs rfl) rfl rfl)) (by simp)
      (EM.itemL (l := menuW.map .str) (S.callN rfl (S.glob (kOf hs rfl) rfl rfl (Stat.fn rfl)) Ys.nil ArgsOk.nil (S.fnC rfl (lwords_ok (n := n + 14)))) (EM.mono (law_draw (n := n + 13) (many := 19) rfl (S.glob (kOf hs rfl) rfl rfl (Stat.fn rfl)) (S.consA rfl (S.loc (kOf hs rfl) rfl rfl) (S.consA rfl Y.int Ys.nil)) (ArgsOk.cons rfl) (by decide) g2) fun d os1 ⟨v, ls', mx', g1, g2, g3, g4, g5⟩ => ?_) (fun _ _ => rfl))
      (fun d os1 ⟨c, ls', mx', g1, g2, g3, g4⟩ => ⟨[(dk, .dct [("left", .own lf), ("mixed", .int mx')]), (lf, .lst (ls'.map .int)), (pg, .lst ((pageOf i).map .int)), (fa, .lst (far.map .str))], near.map .str, (rw, .lst (rows'.map rowD)) :: (dOs x dx ma L ++ base), g4, lm_le _ hnl hi7, c, ls', mx', g1, g3, ?_⟩)) (fun d os1 hZ => ?_)
    · obtain ⟨c, hc, he⟩ := menu_pick menuW D.str g2 g3
      exact ⟨v, g1, g2, by apply Ar.n2 <;> assumption, _, he, c, ls', mx', hc, rfl, g4, g5⟩
    · rw [g2, show ([D.str c] : List D) = [c].map D.str from rfl, ← List.map_append]; rfl
    obtain ⟨c1, ls1, mx1, gw1, gw2, gw3⟩ := hZ
    subst gw3
    generalize hnear : near ++ [c1] = near'
    have hnl' : near'.length = i + 1 := by rw [← hnear, List.length_append, hnl]; rfl
    refine XM.exprE (interOf hs rfl) rfl (EM.append (l0 := far.map .str) (lb := fa) (P1 := fun d os1 => ∃ c ls' mx', c ∈ menuS ∧ d = .str c ∧ DeckOk ls' mx' ∧ os1 = deckO dk lf ls' mx' ++ lawR pg fa nr rw x dx ma rows' near' far (pageOf i) L base)
      (P0 := fun d os1 => ∃ c ls' mx', c ∈ menuS ∧ DeckOk ls' mx' ∧ os1 = deckO dk lf ls' mx' ++ lawR pg fa nr rw x dx ma rows' near' (far ++ [c]) (pageOf i) L base) rfl rfl ⟨_, rfl⟩ (YM.of (S.cell (kOf hs rfl) rfl rfl)) (by simp)
      (EM.itemL (l := menuS.map .str) (S.callN rfl (S.glob (kOf hs rfl) rfl rfl (Stat.fn rfl)) Ys.nil ArgsOk.nil (S.fnC rfl (lsents_ok (n := n + 14)))) (EM.mono (law_draw (n := n + 13) (many := 15) rfl (S.glob (kOf hs rfl) rfl rfl (Stat.fn rfl)) (S.consA rfl (S.loc (kOf hs rfl) rfl rfl) (S.consA rfl Y.int Ys.nil)) (ArgsOk.cons rfl) (by decide) gw2) fun d os1 ⟨v, ls', mx', g1, g2, g3, g4, g5⟩ => ?_) (fun _ _ => rfl))
      (fun d os1 ⟨c, ls', mx', g1, g2, g3, g4⟩ => ⟨[(dk, .dct [("left", .own lf), ("mixed", .int mx')]), (lf, .lst (ls'.map .int)), (pg, .lst ((pageOf i).map .int))], far.map .str, (nr, .lst (near'.map .str)) :: (rw, .lst (rows'.map rowD)) :: (dOs x dx ma L ++ base), g4, lm_le _ hfl hi7, c, ls', mx', g1, g3, ?_⟩)) (fun d os1 hZ => ?_)
    · obtain ⟨c, hc, he⟩ := menu_pick menuS D.str g2 g3
      exact ⟨v, g1, g2, by apply Ar.n3 <;> assumption, _, he, c, ls', mx', hc, rfl, g4, g5⟩
    · rw [g2, show ([D.str c] : List D) = [c].map D.str from rfl, ← List.map_append]; rfl
    obtain ⟨c2, ls2, mx2, gf1, gf2, gf3⟩ := hZ
    subst gf3
    generalize hfar : far ++ [c2] = far'
    have hfl' : far'.length = i + 1 := by rw [← hfar, List.length_append, hfl]; rfl
    refine XM.exprE (interOf hs rfl) rfl (EM.append (l0 := (pageOf i).map .int) (lb := pg) (P1 := EQ (.int (97 + (i : Int))) (deckO dk lf ls2 mx2 ++ lawR pg fa nr rw x dx ma rows' near' far' (pageOf i) L base))
      (P0 := fun d os1 => os1 = deckO dk lf ls2 mx2 ++ lawR pg fa nr rw x dx ma rows' near' far' (pageOf (i + 1)) L base) rfl rfl ⟨_, rfl⟩ (YM.of (S.loc (kOf hs rfl) rfl rfl)) (by simp)
      (EM.yQ (Y.bin Y.int (S.loc (kOf hs rfl) rfl rfl) (by first | with_reducible exact BinOK.addI | ktr_rel))) (fun d os1 ⟨g1, g2⟩ => ⟨[(dk, .dct [("left", .own lf), ("mixed", .int mx2)]), (lf, .lst (ls2.map .int))], (pageOf i).map .int, (fa, .lst (far'.map .str)) :: (nr, .lst (near'.map .str)) :: (rw, .lst (rows'.map rowD)) :: (dOs x dx ma L ++ base), g2, ?_, ?_⟩)) (fun d os1 e => ?_)
    · unfold pageOf; rw [List.length_map, List.length_map, List.length_range]; lia
    · have : pageOf (i + 1) = pageOf i ++ [97 + (i : Int)] := by unfold pageOf; rw [List.range_succ, List.map_append]; rfl
      rw [this, g1, show ([D.int (97 + (i : Int))] : List D) = [97 + (i : Int)].map D.int from rfl, ← List.map_append]
    subst e
    generalize hV : Vs rows' near' far' = V
    have hV0 : V 0 i = .str (rows'.getD i default).1 := by rw [← hV]; rfl
    have hV1 : V 1 i = .str (rows'.getD i default).2.1 := by rw [← hV]; rfl
    have hV2 : V 2 i = .bool (rows'.getD i default).2.2 := by rw [← hV]; rfl
    have hV3 : V 3 i = .str (near'.getD i "") := by rw [← hV]; rfl
    have hV4 : V 4 i = .str (far'.getD i "") := by rw [← hV]; rfl
    have hVs : ∀ t, t < 5 → SameK (dfOf (nm t)) (V t i) := fun t ht => by rw [← hV]; exact Vs_same _ _ _ _ t ht
    have hix : (0 : Int) ≤ (i : Int) ∧ (i : Int) < rows'.length ∧ rows'.length ≤ sizeLine := ix_of hrl' hi7
    have hixn : (0 : Int) ≤ (i : Int) ∧ (i : Int) < near'.length ∧ near'.length ≤ sizeLine := ix_of hnl' hi7
    have hixf : (0 : Int) ≤ (i : Int) ∧ (i : Int) < far'.length ∧ far'.length ≤ sizeLine := ix_of hfl' hi7
    generalize hos : deckO dk lf ls2 mx2 ++ lawR pg fa nr rw x dx ma rows' near' far' (pageOf (i + 1)) L base = os0
    have rR : ∀ {t : Sem Value} {d : D}, Scal d = true → Y w (n + 15) env (rl [("rows", .lst (rows'.map rowD)), ("k", .int i)]) t d → YM w (n + 15) env (rset (rl (RL dk x rw nr fa pg)) "k" (.int i)) os0 t d := fun hs h =>
      YM.one (r' := rl [("rows", .lst (rows'.map rowD)), ("k", .int i)]) (pre := [(dk, .dct [("left", .own lf), ("mixed", .int mx2)]), (lf, .lst (ls2.map .int)), (pg, .lst ((pageOf (i + 1)).map .int)), (fa, .lst (far'.map .str)), (nr, .lst (near'.map .str))]) (a := rw) (o := .lst (rows'.map rowD)) (post := dOs x dx ma L ++ base) hos.symm (frzR_of ⟨⟨_, rfl, .lst (.head _) (Frzs.refl _)⟩, ⟨_, rfl, .refl _⟩, trivial⟩) hs h
    have rN : ∀ {t : Sem Value} {d : D}, Scal d = true → Y w (n + 15) env (rl [("near", .lst (near'.map .str)), ("k", .int i)]) t d → YM w (n + 15) env (rset (rl (RL dk x rw nr fa pg)) "k" (.int i)) os0 t d := fun hs h =>
      YM.one (r' := rl [("near", .lst (near'.map .str)), ("k", .int i)]) (pre := [(dk, .dct [("left", .own lf), ("mixed", .int mx2)]), (lf, .lst (ls2.map .int)), (pg, .lst ((pageOf (i + 1)).map .int)), (fa, .lst (far'.map .str))]) (a := nr) (o := .lst (near'.map .str)) (post := (rw, .lst (rows'.map rowD)) :: (dOs x dx ma L ++ base)) hos.symm (frzR_of ⟨⟨_, rfl, .lst (.head _) (Frzs.refl _)⟩, ⟨_, rfl, .refl _⟩, trivial⟩) hs h
    have rF : ∀ {t : Sem Value} {d : D}, Scal d = true → Y w (n + 15) env (rl [("far", .lst (far'.map .str)), ("k", .int i)]) t d → YM w (n + 15) env (rset (rl (RL dk x rw nr fa pg)) "k" (.int i)) os0 t d := fun hs h =>
      YM.one (r' := rl [("far", .lst (far'.map .str)), ("k", .int i)]) (pre := [(dk, .dct [("left", .own lf), ("mixed", .int mx2)]), (lf, .lst (ls2.map .int)), (pg, .lst ((pageOf (i + 1)).map .int))]) (a := fa) (o := .lst (far'.map .str)) (post := (nr, .lst (near'.map .str)) :: (rw, .lst (rows'.map rowD)) :: (dOs x dx ma L ++ base)) hos.symm (frzR_of ⟨⟨_, rfl, .lst (.head _) (Frzs.refl _)⟩, ⟨_, rfl, .refl _⟩, trivial⟩) hs h
    have z2 : ∀ a b : D, [a, b].length ≤ sizeLine := fun a b => by rw [sizeLine_eq]; exact Nat.le_of_ble_eq_true rfl
    generalize htl : [D.tup [.str "gcb", V 0 i], .tup [.str "incb", V 1 i], .tup [.str "ep", V 2 i], .tup [.str "wb", V 3 i], .tup [.str "sb", V 4 i]] = tl
    refine XM.assignE (P0 := EQ (.lst tl) os0) (EM.listQ (ds := tl) ?_ (by rw [← htl, sizeLine_eq]; exact Nat.le_of_ble_eq_true rfl)) (.inl (kOf hs rfl)) rfl (fun d os1 hZ => ?_)
    · rw [← htl, hV0, hV1, hV2, hV3, hV4]
      refine EMs.consQ rfl (EM.tupleQ (EMs.consQ rfl (EM.yQ Y.str) (EMs.consQ rfl (EM.ymQ (rR rfl (S.item (S.item (S.cell (kOf hs rfl) rfl rfl) (S.loc (kOf hs rfl) rfl rfl) (ItemIs.map ?_) (fun _ _ => rfl)) Y.int (ItemIs.tupC rfl (by decide)) (fun _ _ => rfl)))) EMs.nilQ)) (z2 _ _)) (EMs.consQ rfl (EM.tupleQ (EMs.consQ rfl (EM.yQ Y.str) (EMs.consQ rfl (EM.ymQ (rR rfl (S.item (S.item (S.cell (kOf hs rfl) rfl rfl) (S.loc (kOf hs rfl) rfl rfl) (ItemIs.map ?_) (fun _ _ => rfl)) Y.int (ItemIs.tupC rfl (by decide)) (fun _ _ => rfl)))) EMs.nilQ)) (z2 _ _))
        (EMs.consQ rfl (EM.tupleQ (EMs.consQ rfl (EM.yQ Y.str) (EMs.consQ rfl (EM.ymQ (rR rfl (S.item (S.item (S.cell (kOf hs rfl) rfl rfl) (S.loc (kOf hs rfl) rfl rfl) (ItemIs.map ?_) (fun _ _ => rfl)) Y.int (ItemIs.tupC rfl (by decide)) (fun _ _ => rfl)))) EMs.nilQ)) (z2 _ _)) (EMs.consQ rfl (EM.tupleQ (EMs.consQ rfl (EM.yQ Y.str) (EMs.consQ rfl (EM.ymQ (rN rfl (S.item (S.cell (kOf hs rfl) rfl rfl) (S.loc (kOf hs rfl) rfl rfl) (ItemIs.map ?_) (fun _ _ => rfl)))) EMs.nilQ)) (z2 _ _))
          (EMs.consQ rfl (EM.tupleQ (EMs.consQ rfl (EM.yQ Y.str) (EMs.consQ rfl (EM.ymQ (rF rfl (S.item (S.cell (kOf hs rfl) rfl rfl) (S.loc (kOf hs rfl) rfl rfl) (ItemIs.map ?_) (fun _ _ => rfl)))) EMs.nilQ)) (z2 _ _)) EMs.nilQ))))
      · exact hix
      · exact hix
      · exact hix
      · exact hixn
      · exact hixf
    obtain ⟨e1, e2⟩ := hZ
    subst e1; subst e2
    have htd : ∀ j, j < 5 → tl.getD j .none = .tup [.str (nm j), V j i] := fun j hj => by
      rw [← htl]
      match j, hj with
      | 0, _ => rfl
      | 1, _ => rfl
      | 2, _ => rfl
      | 3, _ => rfl
      | 4, _ => rfl
      | j + 5, h => exact absurd h (by lia)
    have htn : tl.length = 5 := by rw [← htl]; rfl
    have htt : ∀ d ∈ tl, ∃ ds, d = .tup ds := by
      rw [← htl]
      intro d hd
      simp only [List.mem_cons, List.not_mem_nil, or_false] at hd
      rcases hd with h | h | h | h | h <;> exact ⟨_, h⟩
    have hDI : DI (msOf L) V i 0 := by
      rw [← hV, ← hrows, ← hnear, ← hfar]
      refine hL.d.congr fun t q hq => ?_
      unfold Vs
      have e1 : (rows ++ [c]).getD q default = rows.getD q default := getD_app (by apply Ar.le <;> assumption)
      have e2 : (near ++ [c1]).getD q "" = near.getD q "" := getD_app (by apply Ar.le <;> assumption)
      have e3 : (far ++ [c2]).getD q "" = far.getD q "" := getD_app (by apply Ar.le <;> assumption)
      rw [e1, e2, e3]
    refine XM.forL (l := tl) (upd := fun g r => match g with | .tup ds => rsets r ["name", "value"] ds | _ => r) (Inv := fun j r1 os1 => RLe (rl (("k", .int i) :: RL dk x rw nr fa pg)) r1 ∧ ∃ L, DI (msOf L) V i j ∧ os1 = deckO dk lf ls2 mx2 ++ lawR pg fa nr rw x dx ma rows' near' far' (pageOf (i + 1)) L base)
      (.inr ⟨⟨_, _, _, rfl⟩, htt⟩) (fun _ => rfl) (S.loc (kOf hs rfl) rfl rfl) ⟨rle_of ⟨rfl, rfl, rfl, rfl, rfl, rfl, rfl, trivial⟩, L, hDI, hos.symm⟩ (fun j r1 os1 hj ⟨hr1, L1, hD1, ho1⟩ => ?_) (fun r1 os1 hZ => ?_)
    · have hj5 : j < 5 := by lia
      rw [htd j hj5]
      refine ⟨TgtOK.tup rfl (.asg (.inl (kOf hs rfl)) (.asg (.inl (kOf hs rfl)) .nil)) rfl, ?_⟩
      subst ho1
      refine XM.weak (r' := rset (rset (rl (("k", .int i) :: RL dk x rw nr fa pg)) "name" (.str (nm j))) "value" (V j i)) (rset_le (rset_le hr1 "name" _) "value" _) ?_
      have hg := hD1.g j hj5
      have hcj : cnt i j j = i := by unfold cnt; rw [if_neg (by lia)]
      rw [hcj] at hg
      refine XM.exprE (interOf hs rfl) rfl (EM.meth (P0 := fun d os' => ∃ L', PutR (msOf L1) (msOf L') (nm j) (97 + (i : Int)) (97 + (i : Int)) (V j i) ∧ os' = deckO dk lf ls2 mx2 ++ lawR pg fa nr rw x dx ma rows' near' far' (pageOf (i + 1)) L' base) rfl ⟨_, rfl⟩ (EM.ofY (S.cell (d := .own x) (kOf hs rfl) rfl rfl)
        (MethAt.mk (a := x) (c := 298) (dx := dx) (f := 281) (fs := dtF (.dct defsD) (.own ma)) (pre := deckO dk lf ls2 mx2 ++ [(pg, .lst ((pageOf (i + 1)).map .int)), (fa, .lst (far'.map .str)), (nr, .lst (near'.map .str)), (rw, .lst (rows'.map rowD))]) (osA := dOs x dx ma L1) (post := base) (ds := [.str (nm j), .int (97 + (i : Int)), .int (97 + (i : Int)), V j i])
          (.tail _ (.head _)) rfl ⟨rfl, rfl⟩ rfl rfl rfl (S.consA rfl (S.loc (kOf hs rfl) rfl rfl) (S.consA rfl (Y.bin Y.int (S.loc (kOf hs rfl) rfl rfl) (by first | with_reducible exact BinOK.addI | ktr_rel)) (S.consA rfl (Y.bin Y.int (S.loc (kOf hs rfl) rfl rfl) (by first | with_reducible exact BinOK.addI | ktr_rel)) (S.consA rfl (S.loc (kOf hs rfl) rfl rfl) Ys.nil)))) (ArgsOk.cons rfl) (dput_ok (n := n + 11) hD1.nd ?gl ?gs hg.ok (by exact Ar.n9) (by lia) (fun u hu => (hg.va u hu).trans (hVs j hj5)) ?gz) (fun d os2 ⟨_, L', e2, hP⟩ => ⟨L', hP, by rw [e2]; rfl⟩)))) (fun d os1 ⟨L', hP, e⟩ => XM.nil ⟨rle_of ⟨rfl, rfl, rfl, rfl, rfl, rfl, rfl, trivial⟩, L', hD1.step hj5 (by lia) (hVs j hj5) hP, e⟩)
      case gl =>
        have := hD1.len
        have : (msOf L1).length = L1.length := by simp [msOf]
        lia
      case gs =>
        have := hVs j hj5
        revert this
        generalize dfOf (nm j) = q
        intro h
        exact h.scal.1
      case gz => have := hg.len; lia
    · obtain ⟨hr1, L1, hD1, ho1⟩ := hZ
      subst ho1
      rw [htn] at hD1
      refine XM.nil ⟨hb7, fun y d e => ?_, ls2, mx2, rows', near', far', L1, gf2, ⟨hrl', hnl', hfl', ?_, ?_, ?_, ?_⟩, rfl⟩
      · refine hr1 y d ?_
        by_cases hy : y = "k"
        · subst hy; cases e
        · have c : (y == ("k" : Str)) = false := by simpa using hy
          show List.lookup y ((_, _) :: _) = _
          rw [List.lookup_cons, c]; exact e
      · rw [← hrows]
        intro q hq
        rcases List.mem_append.mp hq with hq | hq
        · exact hL.mr q hq
        · rw [List.mem_singleton.mp hq]; assumption
      · rw [← hnear]
        intro q hq
        rcases List.mem_append.mp hq with hq | hq
        · exact hL.mn q hq
        · rw [List.mem_singleton.mp hq]; exact gw1
      · rw [← hfar]
        intro q hq
        rcases List.mem_append.mp hq with hq | hq
        · exact hL.mf q hq
        · rw [List.mem_singleton.mp hq]; exact gf1
      · rw [hV]; exact hD1.next
  -- TAIL
  obtain ⟨hb7, hr, ls, mx, rows, near, far, L, hk, hL, ho⟩ := hI
  subst ho
  generalize hm : b.toNat = m at hL ⊢
  have hm7 : m ≤ 7 := by apply Ar.i7 <;> assumption
  have hpl := page_len m
  refine XM.weak hr ?_
  have hrl := hL.lr
  have hnl := hL.ln
  have hfl := hL.lf
  generalize hX : (pg, Ow.lst ((pageOf m).map .int)) :: (fa, .lst (far.map .str)) :: (nr, .lst (near.map .str)) :: (rw, .lst (rows.map rowD)) :: dOs x dx ma L = X
  refine XM.perm (os2 := X ++ (deckO dk lf ls mx ++ base)) (by rw [← hX]; exact (List.perm_append_comm_assoc (deckO dk lf ls mx) ((pg, Ow.lst ((pageOf m).map .int)) :: (fa, .lst (far.map .str)) :: (nr, .lst (near.map .str)) :: (rw, .lst (rows.map rowD)) :: dOs x dx ma L) base)) ?_
  have hdata : Frz X (.own x) (dataD (msOf L)) := by
    rw [← hX]
    exact .inst (.tail _ (.tail _ (.tail _ (.tail _ (.tail _ (.head _)))))) (.cons (.any _) (.cons (.dct (.tail _ (.tail _ (.tail _ (.tail _ (.head _))))) (maps_frz L fun e he => .tail _ (.tail _ (.tail _ (.tail _ (.tail _ (.tail _ (mOs_mem he)))))))) (.cons (.refl _) (.cons (.refl _) .nil))))
  generalize hT0 : lawT (msOf L) rows near far m = T
  have hTms : msOf L = T.ms := by rw [← hT0]; rfl
  rw [hTms] at hdata
  refine XM.freeze (fz := X) (more := deckO dk lf ls mx ++ base) (r' := rl [("deck", .own dk), ("data", dataD T.ms), ("rows", .lst (rows.map rowD)), ("near", .lst (near.map .str)), ("far", .lst (far.map .str)), ("page", .lst ((pageOf m).map .int))]) rfl
    (frzR_of ⟨⟨_, rfl, .refl _⟩, ⟨_, rfl, hdata⟩, ⟨_, rfl, by rw [← hX]; exact .lst (.tail _ (.tail _ (.tail _ (.head _)))) (Frzs.refl _)⟩, ⟨_, rfl, by rw [← hX]; exact .lst (.tail _ (.tail _ (.head _))) (Frzs.refl _)⟩, ⟨_, rfl, by rw [← hX]; exact .lst (.tail _ (.head _)) (Frzs.refl _)⟩, ⟨_, rfl, by rw [← hX]; exact .lst (.head _) (Frzs.refl _)⟩, trivial⟩) ?_
  clear hdata hX
  have hTok := lawT_ok hL hm7
  have hTx := page_tx (L := L) (rows := rows) (near := near) (far := far) hm7
  have hrows := page_rows hL
  have hnear := page_near hL
  have hfar := page_far hL
  rw [hT0] at hTok hTx hrows hnear hfar
  generalize hcs : pageOf m = cs at hpl hTx hrows hnear hfar ⊢
  have hsl : cs.length ≤ sizeLine := by rw [sizeLine_eq]; lia
  refine XM.assign (d := .int m) (YM.of ?_) (.inl (kOf hs rfl)) rfl ?_
  · rw [← hpl]
    refine (S.lenM (kOf hs rfl) rfl rfl (S.loc (kOf hs rfl) rfl rfl) ?_)
    exact hsl
  refine XM.tupE (xs := ["at", "ends"]) rfl (swOf hs rfl) rfl (.asg (.inl (kOf hs rfl)) (.asg (.inr (kOf hs rfl)) .nil)) ?_
  refine EM.tuple (P1 := fun ds os1 => ∃ p ls mx, ds = [.int p, .lst ((endsL m).map .int)] ∧ -1 ≤ p ∧ p ≤ 2000 ∧ os1 = deckO dk lf ls mx ++ base) (EMs.cons (P0 := fun d os1 => ∃ p ls mx, d = .int p ∧ -1 ≤ p ∧ p ≤ 2000 ∧ os1 = deckO dk lf ls mx ++ base) rfl
    (EM.binR (law_draw (n := n + 13) (many := (m : Int) + 3) rfl (S.glob (kOf hs rfl) rfl rfl (Stat.fn rfl)) (S.consA rfl (S.loc (kOf hs rfl) rfl rfl) (S.consA rfl (Y.bin (S.loc (kOf hs rfl) rfl rfl) Y.int (by first | with_reducible exact BinOK.addI | ktr_rel)) Ys.nil)) (ArgsOk.cons rfl) (by lia) hk) Y.int (fun d os1 ⟨v, ls', mx', g1, g2, g3, g4, g5⟩ => ⟨.int (v - 1), by rw [g1]; exact BinOK.subI, v - 1, ls', mx', rfl, by lia, by lia, g5⟩))
    (fun d os1 ⟨p, ls, mx, g1, g2, g3, g4⟩ => EMs.cons (P0 := EQ (.lst ((endsL m).map .int)) os1) rfl (EM.yQ (Y.ifexp (b := decide ((0 : Int) < m)) (S.cmpB rfl (S.loc (kOf hs rfl) rfl rfl) Y.int CmpOK.gtI) (fun h => ?_) (fun h => ?_))) (fun d2 os2 ⟨e1, e2⟩ => EMs.nil ⟨p, ls, mx, by rw [g1, e1], g2, g3, by rw [e2, g4]⟩)))
    (fun ds os1 hZ => ?_)
  · have : endsL m = [0, (m : Int)] := by unfold endsL; rw [if_pos (by have := of_decide_eq_true h; lia)]
    rw [this]; exact (Y.list (S.consA rfl Y.int (S.consA rfl (S.loc (kOf hs rfl) rfl rfl) Ys.nil)) (by rw [sizeLine_eq]; exact Nat.le_of_ble_eq_true rfl))
  · have : endsL m = [] := by unfold endsL; rw [if_neg (by have := of_decide_eq_false h; lia)]
    rw [this]; exact (Y.list Ys.nil (by rw [sizeLine_eq]; exact Nat.le_of_ble_eq_true rfl))
  obtain ⟨p, ls, mx, g1, g2, g3, g4⟩ := hZ
  subst g1; subst g4
  refine ⟨by rw [sizeLine_eq]; exact Nat.le_of_ble_eq_true rfl, _, rfl, rfl, ?_⟩
  refine XM.freeze (fz := deckO dk lf ls mx) (more := base) (r' := rl [("data", dataD T.ms), ("rows", .lst (rows.map rowD)), ("near", .lst (near.map .str)), ("far", .lst (far.map .str)), ("page", .lst (cs.map .int)), ("many", .int m), ("at", .int p), ("ends", .lst ((endsL m).map .int))]) rfl
    (frzR_of ⟨⟨_, rfl, .refl _⟩, ⟨_, rfl, .refl _⟩, ⟨_, rfl, .refl _⟩, ⟨_, rfl, .refl _⟩, ⟨_, rfl, .refl _⟩, ⟨_, rfl, .refl _⟩, ⟨_, rfl, .refl _⟩, ⟨_, rfl, .refl _⟩, trivial⟩) ?_
  refine XM.assignE (P0 := fun d os1 => ∃ lt, d = .own lt ∧ os1 = (lt, .lst [.lst ((lotI (fun k => lawC rows k.toNat) m).map .int)]) :: base) (EM.listO (P1 := fun ds os1 => ds = [.lst ((lotI (fun k => lawC rows k.toNat) m).map .int)] ∧ os1 = base) (EMs.consQ rfl (EM.yQ ?_) EMs.nilQ)
    (fun ds os1 a ⟨e1, e2⟩ => ⟨by rw [e1, sizeLine_eq]; exact Nat.le_of_ble_eq_true rfl, a, rfl, by rw [e1, e2]⟩)) (.inl (kOf hs rfl)) rfl (fun d os1 hZ => ?_)
  · unfold lotI
    rw [List.map_map]
    refine Y.comp (p := fun i : Nat => lawC rows (1 + (i : Int)).toNat) (f := fun i : Nat => .int (1 + (i : Int))) hs (Src.ofV (SrcV.range2 (a := 1) (b := (m : Int)) (kOf hs rfl) rfl rfl rfl Y.int (S.loc (kOf hs rfl) rfl rfl) ?_)) rfl (fun _ => rfl) (by rw [sizeLine_eq]; apply Ar.s7 <;> assumption) (fun i hi env1 hs1 => YT.one ?_) (fun i hi hp env1 hs1 => ?_)
    · apply Ar.aq <;> assumption
    · exact (S.ofB rfl (S.callN rfl (S.glob (kOf hs1 rfl) rfl rfl (Stat.fn rfl)) (S.consA rfl (S.cell (kOf hs1 rfl) rfl rfl) (S.consA rfl (S.loc (kOf hs1 rfl) rfl rfl) Ys.nil)) (ArgsOk.cons rfl) (S.fnC rfl (lawC_okI (n := n + 13) (by lia) (by apply Ar.c6 <;> assumption) (by lia)))))
    · exact S.loc (kOf hs1 rfl) rfl rfl
  obtain ⟨lt, e1, e2⟩ := hZ
  subst e1; subst e2
  generalize hlotC : lotI (fun k => lawC rows k.toNat) m = lotC
  refine XM.exprE (interOf hs rfl) rfl (EM.append (l0 := [.lst (lotC.map .int)]) (lb := lt) (P1 := EQ (.lst ((lotI (fun k => lawW near rows k.toNat) m).map .int)) ((lt, .lst [.lst (lotC.map .int)]) :: base)) (P0 := fun d os1 => os1 = (lt, .lst [.lst (lotC.map .int), .lst ((lotI (fun k => lawW near rows k.toNat) m).map .int)]) :: base) rfl rfl ⟨_, rfl⟩ (YM.of (S.loc (kOf hs rfl) rfl rfl)) (.head _)
    (EM.yQ ?_) (fun d os1 ⟨g1, g2⟩ => ⟨[], _, _, g2, Nat.le_of_ble_eq_true rfl, by rw [g1]; rfl⟩)) (fun d os1 e => ?_)
  · unfold lotI
    rw [List.map_map]
    refine Y.comp (p := fun i : Nat => lawW near rows (1 + (i : Int)).toNat) (f := fun i : Nat => .int (1 + (i : Int))) hs (Src.ofV (SrcV.range2 (a := 1) (b := (m : Int)) (kOf hs rfl) rfl rfl rfl Y.int (S.loc (kOf hs rfl) rfl rfl) ?_)) rfl (fun _ => rfl) (by rw [sizeLine_eq]; apply Ar.s7 <;> assumption) (fun i hi env1 hs1 => YT.one ?_) (fun i hi hp env1 hs1 => ?_)
    · apply Ar.aq <;> assumption
    · exact (S.ofB rfl (S.callN rfl (S.glob (kOf hs1 rfl) rfl rfl (Stat.fn rfl)) (S.consA rfl (S.cell (kOf hs1 rfl) rfl rfl) (S.consA rfl (S.cell (kOf hs1 rfl) rfl rfl) (S.consA rfl (S.loc (kOf hs1 rfl) rfl rfl) Ys.nil))) (ArgsOk.cons rfl) (S.fnC rfl (lawW_okI (n := n + 13) (by lia) (by apply Ar.c6 <;> assumption) (by apply Ar.c6 <;> assumption) (by lia) (by lia)))))
    · exact S.loc (kOf hs1 rfl) rfl rfl
  subst e
  generalize hlotW : lotI (fun k => lawW near rows k.toNat) m = lotW
  refine XM.exprE (interOf hs rfl) rfl (EM.append (l0 := [.lst (lotC.map .int), .lst (lotW.map .int)]) (lb := lt) (P1 := EQ (.lst ((lotI (fun k => lawS far k.toNat) m).map .int)) ((lt, .lst [.lst (lotC.map .int), .lst (lotW.map .int)]) :: base)) (P0 := fun d os1 => os1 = (lt, .lst [.lst (lotC.map .int), .lst (lotW.map .int), .lst ((lotI (fun k => lawS far k.toNat) m).map .int)]) :: base) rfl rfl ⟨_, rfl⟩ (YM.of (S.loc (kOf hs rfl) rfl rfl)) (.head _)
    (EM.yQ ?_) (fun d os1 ⟨g1, g2⟩ => ⟨[], _, _, g2, Nat.le_of_ble_eq_true rfl, by rw [g1]; rfl⟩)) (fun d os1 e => ?_)
  · unfold lotI
    rw [List.map_map]
    refine Y.comp (p := fun i : Nat => lawS far (1 + (i : Int)).toNat) (f := fun i : Nat => .int (1 + (i : Int))) hs (Src.ofV (SrcV.range2 (a := 1) (b := (m : Int)) (kOf hs rfl) rfl rfl rfl Y.int (S.loc (kOf hs rfl) rfl rfl) ?_)) rfl (fun _ => rfl) (by rw [sizeLine_eq]; apply Ar.s7 <;> assumption) (fun i hi env1 hs1 => YT.one ?_) (fun i hi hp env1 hs1 => ?_)
    · apply Ar.aq <;> assumption
    · exact (S.ofB rfl (S.callN rfl (S.glob (kOf hs1 rfl) rfl rfl (Stat.fn rfl)) (S.consA rfl (S.cell (kOf hs1 rfl) rfl rfl) (S.consA rfl (S.loc (kOf hs1 rfl) rfl rfl) Ys.nil)) (ArgsOk.cons rfl) (S.fnC rfl (lawS_okI (n := n + 13) (by lia) (by apply Ar.c6 <;> assumption) (by lia)))))
    · exact S.loc (kOf hs1 rfl) rfl rfl
  subst e
  generalize hlotS : lotI (fun k => lawS far k.toNat) m = lotS
  refine XM.freeze (fz := [(lt, .lst [.lst (lotC.map .int), .lst (lotW.map .int), .lst (lotS.map .int)])]) (more := base) (r' := rl [("data", dataD T.ms), ("page", .lst (cs.map .int)), ("at", .int p), ("ends", .lst ((endsL m).map .int)), ("lots", .lst ([lotC, lotW, lotS].map fun l => .lst (l.map .int)))]) rfl
    (frzR_of ⟨⟨_, rfl, .refl _⟩, ⟨_, rfl, .refl _⟩, ⟨_, rfl, .refl _⟩, ⟨_, rfl, .refl _⟩, ⟨_, rfl, .lst (.head _) (Frzs.refl _)⟩, trivial⟩) ?_
  have hlotl : ∀ Q : Int → Bool, (lotI Q m).length ≤ m := fun Q => by
    unfold lotI
    rw [List.length_map]
    exact Nat.le_trans (List.length_filter_le _ _) (by rw [List.length_range]; exact Ar.s6)
  have hendl : (endsL m).length ≤ 2 := by unfold endsL; split <;> exact Nat.le_of_ble_eq_true rfl
  refine XM.asgComp (its := [lotC, lotW, lotS]) (g := fun l => .lst (l.map .int)) (q := fun _ => true) (fun l : List Int => .lst (l.map .int)) (fun lot : List Int => (endsL m).take (1 : Int).toNat ++ lot ++ (endsL m).drop (1 : Int).toNat) hs (S.loc (kOf hs rfl) rfl rfl) rfl (swsOf hs rfl) (.inl (kOf hs rfl)) (fun _ => rfl) (by rw [sizeLine_eq]; exact Nat.le_of_ble_eq_true rfl) (fun a ha env1 hs1 => YT.nil) (fun a ha _ env1 hs1 => ?_) ?_
  · have hal : a.length ≤ m := by
      simp only [List.mem_cons, List.not_mem_nil, or_false] at ha
      rcases ha with h | h | h <;> rw [h]
      · rw [← hlotC]; exact hlotl _
      · rw [← hlotW]; exact hlotl _
      · rw [← hlotS]; exact hlotl _
    have he1 : (endsL m).length ≤ sizeLine := by rw [sizeLine_eq]; apply Ar.j1 <;> assumption
    refine Y.bin (Y.bin (S.toM (k := 1) (S.cell (kOf hs1 rfl) rfl rfl) Y.int ⟨by decide, he1⟩) (S.loc (kOf hs1 rfl) rfl rfl) (BinOK.addM ?_)) (S.fromM (k := 1) (S.cell (kOf hs1 rfl) rfl rfl) Y.int ⟨by decide, he1⟩) (BinOK.addM ?_)
    · rw [sizeLine_eq, List.length_take]; apply Ar.m9 <;> assumption
    · rw [sizeLine_eq, List.length_append, List.length_take, List.length_drop]; apply Ar.m8 <;> assumption
  rw [filter_tt]
  have hmC : ∀ c ∈ cs, rowOf T c ∈ menuC := fun c hc => hL.mr _ (by rw [← hrows]; exact List.mem_map.mpr ⟨c, hc, rfl⟩)
  have hmW : ∀ c ∈ cs, (T.cl c).w ∈ menuW := fun c hc => hL.mn _ (by rw [← hnear]; exact List.mem_map.mpr ⟨c, hc, rfl⟩)
  have hdue : List.map (fun lot : List Int => (endsL m).take (1 : Int).toNat ++ lot ++ (endsL m).drop (1 : Int).toNat) [lotC, lotW, lotS] = [boundsI cs.length (cbreak T cs), boundsI cs.length (wrule T cs), boundsI cs.length (sbrk (sss T cs))] := by
    rw [hpl, ← hlotC, ← hlotW, ← hlotS]
    have d1 : dueI (fun k => lawC rows k.toNat) m = boundsI m (cbreak T cs) := due_eq fun i h1 hi => by
      rw [cluster_law hmC h1 (by apply Ar.le <;> assumption), hrows]; rfl
    have d2 : dueI (fun k => lawW near rows k.toNat) m = boundsI m (wrule T cs) := due_eq fun i h1 hi => by
      rw [word_law hmW h1 (by apply Ar.le <;> assumption), hrows, hnear]; rfl
    have d3 : dueI (fun k => lawS far k.toNat) m = boundsI m (sbrk (sss T cs)) := due_eq fun i h1 hi => by
      rw [sent_law h1 (by rw [sss_len]; apply Ar.le <;> assumption), hfar]; rfl
    rw [← d1, ← d2, ← d3]; rfl
  rw [hdue]
  have hbC := bounds_len cs.length (cbreak T cs)
  have hps : -1 ≤ p ∧ p ≤ 2000 := ⟨g2, g3⟩
  have toldC := fun ru h => told_C (w := w) (n := n) (ru := ru) hTok hTx hmC hps h
  have toldW := fun ru h => told_W (w := w) (n := n) (ru := ru) hTok hTx hps h
  have toldS := fun ru h => told_S (w := w) (n := n) (ru := ru) hTok hTx hps h
  generalize boundsI cs.length (cbreak T cs) = bC at toldC ⊢
  generalize boundsI cs.length (wrule T cs) = bW at toldW ⊢
  generalize boundsI cs.length (sbrk (sss T cs)) = bS at toldS ⊢
  refine XM.weak (r' := rl [("data", dataD T.ms), ("page", .lst (cs.map .int)), ("at", .int p), ("due", .lst [.lst (bC.map .int), .lst (bW.map .int), .lst (bS.map .int)])]) (rle_of ⟨rfl, rfl, rfl, rfl, trivial⟩) ?_
  refine XM.assign (d := lookD 190 T) (YM.of (Y.bound (S.callN rfl (S.glob (kOf hs rfl) rfl rfl Stat.cls) (S.consA rfl (S.glob (kOf hs rfl) rfl rfl (Stat.fn rfl)) (S.consA rfl (S.cell (kOf hs rfl) rfl rfl) Ys.nil)) (ArgsOk.cons rfl) (S.fnC rfl (look_ok (n := n + 13)))) rfl ⟨rfl, rfl⟩ rfl rfl rfl rfl rfl rfl)) (.inl (kOf hs rfl)) rfl ?_
  subst hbase
  refine XM.ifNotE (P0 := fun os' => ∃ ps' l', TabOk ps' l' ∧ (∀ q ∈ l', q.1 < 495) ∧ os' = [(509, .raw (tabObj ps')), (4, .raw ob)]) rfl (EM.callL (y := "data") (dy := dataD T.ms) (p1 := "some") (p2 := "place") (c := 511) (tb := 509) (l := []) (pre := []) (post := [(4, .raw ob)]) (ob := ob) rfl (S.glob (kOf hs rfl) rfl rfl (Stat.fn rfl)) rfl rfl rfl rfl ?hfr (kOf hs rfl) rfl hcode (by kernel_rfl) TabOk.nil ?hl rfl (.tail _ (.head _)) hB (by decide) ?hbind ?ha (toldC _ fun ds hds i hi => Callee.lam2 (n := n + 9) ?k1 ?k2 ?k3 ?k4 ?k5 ?k6 ?k7 ?k8 ?k9) (fun ps' h => ⟨rfl, ps', _, h, ?hq, rfl⟩)) (fun os' ⟨ps1, l1, t1, t2, t3⟩ => XM.nil ?_)
  case hl => intro q hq; cases hq
  case hq => decide
  case ha => exact S.consA rfl (S.loc (kOf hs rfl) rfl rfl) (S.consA rfl (S.loc (kOf hs rfl) rfl rfl) (S.consA rfl (S.item (S.loc (kOf hs rfl) rfl rfl) Y.int (ItemIs.lst ⟨by decide, by decide, rfl⟩) (fun _ _ => rfl)) (S.consA rfl (S.loc (kOf hs rfl) rfl rfl) Ys.nil)))
  case hfr => decide
  case hbind =>
    intro qual cl pm cdv ctv vs hv
    obtain ⟨a, b, rfl⟩ := L2 hv; rfl
  case k1 => rfl
  case k2 => rfl
  case k3 => rfl
  case k4 => decide
  case k5 => rfl
  case k6 => rfl
  case k7 => rfl
  case k8 => decide
  case k9 =>
    intro env1 hs1
    exact S.callN rfl (S.glob (kOf hs1 rfl) rfl rfl (Stat.fn rfl)) (S.consA rfl (S.loc (kOf hs1 rfl) rfl rfl) (S.consA rfl (S.loc (kOf hs1 rfl) rfl rfl) (S.consA rfl (S.free (kOf hs1 rfl) rfl rfl rfl) Ys.nil))) (ArgsOk.cons rfl) (S.fnC rfl (cbreak_ok (n := n + 2) hTok hds hi))
  subst t3
  show XM w (n + 15) env _ _ _ _
  refine XM.assign (d := lookD 28 T) (YM.of (Y.bound (S.callN rfl (S.glob (kOf hs rfl) rfl rfl Stat.cls) (S.consA rfl (S.glob (kOf hs rfl) rfl rfl (Stat.fn rfl)) (S.consA rfl (S.cell (kOf hs rfl) rfl rfl) Ys.nil)) (ArgsOk.cons rfl) (S.fnC rfl (look_ok (n := n + 13)))) rfl ⟨rfl, rfl⟩ rfl rfl rfl rfl rfl rfl)) (.inl (kOf hs rfl)) rfl ?_
  refine XM.ifNotE (P0 := fun os' => ∃ ps' l', TabOk ps' l' ∧ (∀ q ∈ l', q.1 < 497) ∧ os' = [(509, .raw (tabObj ps')), (4, .raw ob)]) rfl (EM.callL (y := "data") (dy := dataD T.ms) (p1 := "some") (p2 := "place") (c := 511) (tb := 509) (l := l1) (pre := []) (post := [(4, .raw ob)]) (ob := ob) rfl (S.glob (kOf hs rfl) rfl rfl (Stat.fn rfl)) rfl rfl rfl rfl ?hfr (kOf hs rfl) rfl hcode (by kernel_rfl) t1 ?hl rfl (.tail _ (.head _)) hB (by decide) ?hbind ?ha (toldW _ fun ds hds i hi => Callee.lam2 (n := n + 9) ?k1 ?k2 ?k3 ?k4 ?k5 ?k6 ?k7 ?k8 ?k9) (fun ps' h => ⟨rfl, ps', _, h, ?hq, rfl⟩)) (fun os' ⟨ps1, l1, t1, t2, t3⟩ => XM.nil ?_)
  case hl =>
    intro q hq e
    have h := t2 q hq
    rw [e] at h
    exact absurd h (show ¬ (495 : Nat) < 495 by decide)
  case hq =>
    intro q hq
    rcases List.mem_append.mp hq with hq | hq
    · have := t2 q hq; lia
    · rw [List.mem_singleton.mp hq]; decide
  case ha => exact S.consA rfl (S.loc (kOf hs rfl) rfl rfl) (S.consA rfl (S.loc (kOf hs rfl) rfl rfl) (S.consA rfl (S.item (S.loc (kOf hs rfl) rfl rfl) Y.int (ItemIs.lst ⟨by decide, by decide, rfl⟩) (fun _ _ => rfl)) (S.consA rfl (S.loc (kOf hs rfl) rfl rfl) Ys.nil)))
  case hfr => decide
  case hbind =>
    intro qual cl pm cdv ctv vs hv
    obtain ⟨a, b, rfl⟩ := L2 hv; rfl
  case k1 => rfl
  case k2 => rfl
  case k3 => rfl
  case k4 => decide
  case k5 => rfl
  case k6 => rfl
  case k7 => rfl
  case k8 => decide
  case k9 =>
    intro env1 hs1
    exact S.callN rfl (S.glob (kOf hs1 rfl) rfl rfl (Stat.fn rfl)) (S.consA rfl (S.loc (kOf hs1 rfl) rfl rfl) (S.consA rfl (S.loc (kOf hs1 rfl) rfl rfl) (S.consA rfl (S.free (kOf hs1 rfl) rfl rfl rfl) Ys.nil))) (ArgsOk.cons rfl) (S.fnC rfl (wbreak_ok (n := n) hTok hds hi))
  subst t3
  show XM w (n + 15) env _ _ _ _
  refine XM.retE (EM.callL (y := "data") (dy := dataD T.ms) (p1 := "some") (p2 := "place") (c := 511) (tb := 509) (l := l1) (pre := []) (post := [(4, .raw ob)]) (ob := ob) rfl (S.glob (kOf hs rfl) rfl rfl (Stat.fn rfl)) rfl rfl rfl rfl ?hfr (kOf hs rfl) rfl hcode (by kernel_rfl) t1 ?hl rfl (.tail _ (.head _)) hB (by decide) ?hbind ?ha (toldS _ fun ds hds i hi => Callee.lam2 (n := n + 9) ?k1 ?k2 ?k3 ?k4 ?k5 ?k6 ?k7 ?k8 ?k9) (P0 := fun d os' => d = .bool true ∧ ∃ ps, os' = [(509, .raw (tabObj ps)), (4, .raw ob)]) (fun ps' h => ⟨rfl, ps', rfl⟩)) (fun d os' e => .inl ⟨d, rfl, e⟩)
  case hl =>
    intro q hq e
    have h := t2 q hq
    rw [e] at h
    exact absurd h (show ¬ (497 : Nat) < 497 by decide)
  case ha => exact S.consA rfl Y.none (S.consA rfl (S.loc (kOf hs rfl) rfl rfl) (S.consA rfl (S.item (S.loc (kOf hs rfl) rfl rfl) Y.int (ItemIs.lst ⟨by decide, by decide, rfl⟩) (fun _ _ => rfl)) (S.consA rfl (S.loc (kOf hs rfl) rfl rfl) Ys.nil)))
  case hfr => decide
  case hbind =>
    intro qual cl pm cdv ctv vs hv
    obtain ⟨a, b, rfl⟩ := L2 hv; rfl
  case k1 => rfl
  case k2 => rfl
  case k3 => rfl
  case k4 => decide
  case k5 => rfl
  case k6 => rfl
  case k7 => rfl
  case k8 => decide
  case k9 =>
    intro env1 hs1
    exact S.callN rfl (S.glob (kOf hs1 rfl) rfl rfl (Stat.fn rfl)) (S.consA rfl (S.loc (kOf hs1 rfl) rfl rfl) (S.consA rfl (S.loc (kOf hs1 rfl) rfl rfl) (S.consA rfl (S.free (kOf hs1 rfl) rfl rfl rfl) Ys.nil))) (ArgsOk.cons rfl) (S.fnC rfl (sbrk_ok (n := n + 1) hTok hds hi))
end
end Uni
namespace Uni
theorem well_ints {P : Params} {w : World} {h : Heap} {Z : List Addr} : ∀ {ns : List Int} {vs : List Value}, WellAll P h vs (ofPys (ns.map PyData.int)) → Rds w h Z (ns.map D.int) vs
  | [], _, x => by cases x; rfl
  | n :: ns, _, x => by
    cases x with
    | cons h1 h2 =>
      cases h1 with
      | int i t => exact ⟨_, _, rfl, ⟨t, rfl⟩, well_ints h2⟩
theorem well_list {P : Params} {w : World} {h : Heap} {Z : List Addr} {ns : List Int} {a : Addr} (x : Well P h (.ref a) (ofPy (.list (ns.map PyData.int)))) (hz : ∀ vs : Array Value, h.get? a = some (lstO vs 0) → a ∉ Z) : Rd w h Z (.lst (ns.map .int)) (.ref a) := by
  have x : Well P h (.ref a) (.list (ofPys (ns.map PyData.int))) := x
  cases x with
  | @list _ vs _ h1 h2 => exact ⟨a, vs.toArray, 0, rfl, hz _ h1, h1, well_ints h2⟩
theorem wd_hide {w : World} {h : Heap} {l : List Addr} (W : Wd w h) (hK : ∀ a ∈ l, (KK w).lookup a = none) (h1 : mainGlobals ∉ l) (h2 : builtinsNs ∉ l) (h3 : cStatics ∉ l) : Wd w (hideAll h l) where
  k := fun a o e => hideAll_get _ (W.k a o e) fun q => by rw [hK a q] at e; cases e
  g := by
    obtain ⟨mg, G⟩ := W.g
    exact ⟨mg, G.at' fun o e => hideAll_get _ e h1⟩
  b := by
    obtain ⟨mb, B, hb⟩ := W.b
    exact ⟨mb, B.at' fun o e => hideAll_get _ e h2, hb⟩
  lim := by
    obtain ⟨mc, C, hc⟩ := W.lim
    exact ⟨mc, C.at' fun o e => hideAll_get _ e h3, hc⟩
theorem law_post (r : OpenLaw) (l : List WData) (as : List WData) : (r.row.claim).post as (.bool true) l = true := by
  have h1 : WShape.has r.row.records (.bool true) r.row.returns = true := by
    show WShape.has [] (.bool true) .bool = true
    simp [WShape.has, WShape.arms]
  have h2 : r.row.post.holds r.row.records { args := as, res := some (.bool true), after := l } = true := by
    show (WTm.eq .res (.lit (.bool true))).holds [] { args := as, res := some (.bool true), after := l } = true
    unfold WTm.holds
    rw [w_eq_bool (k := true) (l := true) (by simp [WTm.value]) (by simp [WTm.value])]
    rfl
  show (WShape.has r.row.records (.bool true) r.row.returns && r.row.post.holds r.row.records { args := as, res := some (.bool true), after := l }) = true
  rw [h1, h2]; rfl
theorem law_join {w : World} {s₁ : Shared} {mg mb : Str → Option Value} {p : Program} {loose : List Str} {mean mean' : ExcName → Option Value} {cw : ClaimW} {cl : Str → Option Addr} {args : List WData} {ns : List Int} {fa a : Addr} (KX : (KK w).In s₁.heap) (T : Top p loose mean mg mb s₁.heap) (hT : TabsAt [(511, 509)] s₁.heap)
    (hfa : mg "law" = some (.ref fa)) (hg : s₁.gens = #[]) (hw : Well w.params s₁.heap (.ref a) (ofPy (.list (ns.map PyData.int)))) (hl : ns.length ≤ 63) (hr : ∀ a x, cw.raises a x = false) (hp : cw.post args (.bool true) args = true) :
    codeAny (MM w) callerA (.call (.ref fa) ⟨[.ref a], []⟩) (GoodWG cw cl mean' args s₁) s₁ := by
  have e5 : nsIn (KK w) mainGlobals "law" = some (some (.ref 512)) := by kernel_rfl
  have e6 := mg_of KX T.g e5
  rw [hfa] at e6
  cases e6
  have e7 := mg_of KX T.g bmIn
  obtain ⟨bm, ob, b1, b2, b3, b4, b5, b6⟩ := T.bmain
  rw [show mg (Str.ofString "__builtins__") = some (.ref 4) from e7] at b1
  cases b1
  have hP : s₁.heap.get? 509 = some (tabObj #[]) := (hT (511, 509) (.head _)).2
  have K9 : (KK w).lookup 509 = none := by kernel_rfl
  have K4 : (KK w).lookup 4 = none := by kernel_rfl
  have W : Wd w s₁.heap := ⟨KX, ⟨mg, T.g⟩, ⟨mb, T.b, T.builtins⟩, T.nolimit⟩
  refine kn_post hT hr (codeAny_mono (law_callM (w := w) (n := 0) (sc := ns) (by lia) (ob := ob) ⟨b4, b5, b6⟩ callerA s₁ [] (hideAll s₁.heap [509, 4]) [.ref a] ⟨rfl, by decide, by decide⟩ ⟨W, ?_, ?_, fun b o e => of_hideAll _ e, ?_, (show ([509, 4] : List Addr).Nodup by decide), ?_⟩ ?_) fun r s' ⟨v, d, os', h1, ⟨h2, ps, h3⟩, rv, ow, nd, dj, sm, kb⟩ => ?_)
  · intro z hz
    simp only [places, placesOf, List.append_nil, List.cons_append, List.nil_append, List.mem_cons, List.not_mem_nil, or_false] at hz
    rcases hz with rfl | rfl
    · exact ⟨K9, _, hP⟩
    · exact ⟨K4, _, b3⟩
  · refine wd_hide W (fun z hz => ?_) (by decide) (by decide) (by decide)
    simp only [List.mem_cons, List.not_mem_nil, or_false] at hz
    rcases hz with rfl | rfl
    · exact K9
    · exact K4
  · intro q hq
    simp only [List.mem_cons, List.not_mem_nil, or_false] at hq
    rcases hq with rfl | rfl
    · exact hP
    · exact b3
  · intro b hb
    exact ⟨by simp, hideAll_none _ hb⟩
  · refine ⟨_, [], rfl, well_list hw fun vs hv q => ?_, rfl⟩
    simp only [places, placesOf, List.append_nil, List.cons_append, List.nil_append, List.mem_cons, List.not_mem_nil, or_false] at q
    rcases q with rfl | rfl
    · rw [hP] at hv
      have := congrArg Obj.cls (Option.some.inj hv)
      cases this
    · rw [b3] at hv
      have := congrArg Obj.cls (Option.some.inj hv)
      rw [b4] at this
      exact absurd (Value.type.inj this) (by decide)
  · subst h1; subst h2; subst h3
    cases rv
    have o9 : s'.heap.get? 509 = some (tabObj ps) := ow (509, .raw (tabObj ps)) (.head _)
    have o4 : s'.heap.get? 4 = some ob := ow (4, .raw ob) (.tail _ (.head _))
    refine ⟨⟨.inl ⟨.bool true, .bool true, [], rfl, hr args, .bool true, hp, unshared_nil⟩, fun b o e => ?_, by rw [sm.eq], by rw [sm.eq]; exact hg⟩, ⟨ps, o9⟩, trivial⟩
    have e1 := of_hideAll _ e
    by_cases c : b ∈ ([509, 4] : List Addr)
    · simp only [List.mem_cons, List.not_mem_nil, or_false] at c
      rcases c with rfl | rfl
      · rw [show (ghostOf s₁.heap [(511, 509)]).get? 509 = none from hideAll_none _ (.head _)] at e; cases e
      · rw [b3] at e1; cases e1; exact o4
    · exact sm.k b o (by simp) c e1
end Uni
set_option maxHeartbeats 8000000 in
theorem PySem.Challenge.cw_nt0055_01_holds : PySem.Challenge.rw_nt0055_01.Holds := by
  refine UniH.hd (by rfl) (by rfl) (by rfl) ?_
  intro w s₀ s₁ mg mb G Y fa o pm cd doc dV kV ho hd hcd hD hmg hg args vals as hpre hlay hrd hwl hlo
  have KX := km_in_of Y
  have hT8 := km_tabs_of Y
  refine Ground.open G ?_
  intro T B D TE TW
  wrow_args hpre hlay hrd hwl hlo
  refine enter_call ?_
  rename_i ns hs0 hlay0 hL0 hr0 hl2 x1 x2 la x4 x5 hL ra w1 r0 hI hr1 hc1 hc2
  refine Uni.law_join KX T ?_ hmg hg w1 ?_ (fun _ _ => rfl) ?_
  · intro q hq
    rw [List.mem_singleton.mp hq]
    exact ⟨codeHd_of_K KX (by kernel_rfl), hT8 509 (.head _)⟩
  · apply Uni.Ar.aT <;> assumption
  · exact Uni.law_post _ _ _
