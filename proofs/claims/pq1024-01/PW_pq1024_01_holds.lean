import PyProof.Rows.All
import Wide.All
import OpenK.AllK
import Wide.FinOn
import Lean
import PySem.Challenge.RW_pq1024_01
open PySem PySem.W PyProof.Rows PySem.Challenge
set_option Elab.async false
set_option compiler.extract_closed false
set_option maxRecDepth 100000
set_option maxHeartbeats 0
set_option linter.all false
namespace Mine
local macro_rules | `(tactic| k_mem)=>`(tactic| with_reducible first | exact List.mem_cons_self | assumption | (refine List.mem_cons_of_mem _ ?_;k_mem))
local macro_rules | `(tactic| k_places)=>`(tactic| with_reducible first | exact fun _ h=>h | assumption | (intro p hp;k_mem))
section
noncomputable section
noncomputable abbrev hI (i:Int) (t:Tok):Value:=.int i t
noncomputable abbrev hS (s:String) (t:Tok):Value:=.str (Str.ofString s) t
noncomputable abbrev hE (P:Params) (s:String) (t:Tok) (v:Value):DictEntry:=⟨PyData.keyHash P (Str.ofString s),.str (Str.ofString s) t,v⟩
noncomputable abbrev hD (es:List DictEntry) (n:Nat):Obj:={ cls:=.type "dict",data:=.dict es.toArray n }
noncomputable abbrev hT (vs:List Value):Obj:={ cls:=.type "tuple",data:=.seq vs.toArray 0 }
noncomputable def sAt:List Stmt→Nat→Option Stmt
  | s::_,0=>some s
  | _::r,n + 1=>sAt r n
  | [],_=>none
noncomputable def sIn:Option Stmt→Nat→Option Stmt
  | some (.ClassDef _ _ _ b _ _ _ _ _ _ _),n=>sAt b n
  | _,_=>none
noncomputable abbrev sTop (n:Nat):Option Stmt:=sAt PySem.Challenge.pw_pq1024_01.main.body n
noncomputable def hF (s:Option Stmt) (q:String) (m:Value) (c:Addr):Obj:=match s with
  | some (.FunctionDef n a b _ _ _ sc _ _ _)=>{ cls:=.type "function",data:=.func { name:=n,qualname:=Str.ofString q,params:=a,body:=.stmts b,scope:=sc,globals:=3,closure:=[],defaults:=.none,kwdefaults:=.none,pyModule:=m,code:=.ref c } }
  | _=>{ cls:=.none }
noncomputable abbrev hC (x:String) (b:Value) (me ns:Addr) (m:List Value) (d:List (Option Value)) (su:List Value):Obj:={ cls:=.type "type",data:=.cls { name:=Str.ofString x,bases:=[b],mro:=.ref me::m,ns:=ns,qualname:=Str.ofString x,subclasses:=su },slots:=d.toArray }
noncomputable def hd.heap_39:Params→Frag:=fun P =>
  (nat_lit 2,{ cls:=.none,data:=.dict #[] }) ::
  (nat_lit 3,hD [hE P "__name__" 165 (hS "law_pq1024_01" 904),hE P "__doc__" 166 .none,hE P "__package__" 167 .none,hE P "__loader__" 168 (.builtin "__main__.__loader__#opaque"),hE P "__spec__" 169 .none,hE P "__annotations__" 170 (.ref 6),hE P "__builtins__" 171 (.ref 4),hE P "__file__" 173 (hS "/claim/cut.py" 172),hE P "__cached__" 174 .none,hE P "_wall" 193 (.ref 21),hE P "CONST" 197 (hI 0 196),hE P "LOCAL" 199 (hI 1 198),hE P "GLOBAL" 201 (hI 2 200),hE P "SET_LOCAL" 203 (hI 3 202),hE P "SET_GLOBAL" 205 (hI 4 204),hE P "DEFINE" 207 (hI 5 206),hE P "LAMBDA" 209 (hI 7 208),hE P "CALL" 211 (hI 8 210),hE P "SEQ" 213 (hI 9 212),hE P "PRIM" 215 (hI 10 214),hE P "FIX" 217 (hI 11 216),hE P "Node" 255 (.ref 45),hE P "Const" 281 (.ref 66),hE P "Local" 307 (.ref 85),hE P "Global" 333 (.ref 104),hE P "SetLocal" 376 (.ref 137),hE P "Lambda" 438 (.ref 184),hE P "Call" 481 (.ref 217),hE P "Seq" 522 (.ref 250),hE P "Fix" 567 (.ref 283),hE P "are_same_list" 576 (.ref 292),hE P "rebuilt" 592 (.ref 299),hE P "let_node" 602 (.ref 306),hE P "is_let" 609 (.ref 313),hE P "seq_of" 616 (.ref 320),hE P "TOP" 621 (hI (-1) 620),hE P "Facts" 708 (.ref 379),hE P "count_in" 716 (.ref 390),hE P "note_node" 726 (.ref 397),hE P "facts_of" 740 (.ref 404),hE P "Special" 771 (.ref 421),hE P "UNASSIGNED" 777 (.ref 427),hE P "Pair" 809 (.ref 445),hE P "is_unassigned" 818 (.ref 456),hE P "begun_late" 830 (.ref 463),hE P "Fixing" 896 (.ref 501),hE P "fixed" 903 (.ref 512),hE P "_law_draw" 914 (.ref 519),hE P "_law_deck_of" 920 (.ref 524),hE P "_law_one" 928 (.ref 531),hE P "_law_new" 936 (.ref 538),hE P "_law_told" 942 (.ref 543),hE P "_law_value_of" 956 (.ref 550),hE P "_law_late" 962 (.ref 555),hE P "_law_times_set" 968 (.ref 560),hE P "_law_due_of" 974 (.ref 565),hE P "law" 988 (.ref 572)] 57) ::
  (nat_lit 20,{ cls:=(.type "code"),data:=.fields #[(hS "_wall" 187),(hS "_wall" 188),(hS "/claim/cut.py" 189),(hI 1 0),(hI 1 0),(hI 0 0),(hI 0 0),(hI 3 0),(.ref 15),(.bool true),(hI 181 0),(.ref 16),.none,(.ref 17),(.ref 18),(.ref 19),(hI 191 0),(hI 1 0),(hS "/claim/cut.py" 192)] }) ::
  (nat_lit 21,hF (sTop 0) "_wall" (hS "__main__" 164) 20) ::
  (nat_lit 34,{ cls:=(.type "code"),data:=.fields #[(hS "parts" 233),(hS "Node.parts" 234),(hS "/claim/cut.py" 235),(hI 19 0),(hI 1 0),(hI 0 0),(hI 0 0),(hI 3 0),(.ref 29),(.bool true),(hI 181 0),(.ref 30),.none,(.ref 31),(.ref 32),(.ref 33),(hI 237 0),(hI 19 0),(hS "/claim/cut.py" 238)] }) ::
  (nat_lit 35,hF (sIn (sTop 13) 1) "Node.parts" (hS "scheme.core" 194) 34) ::
  (nat_lit 41,{ cls:=(.type "code"),data:=.fields #[(hS "with_parts" 240),(hS "Node.with_parts" 241),(hS "/claim/cut.py" 242),(hI 22 0),(hI 2 0),(hI 0 0),(hI 0 0),(hI 3 0),(.ref 36),(.bool true),(hI 181 0),(.ref 37),.none,(.ref 38),(.ref 39),(.ref 40),(hI 245 0),(hI 22 0),(hS "/claim/cut.py" 246)] }) ::
  (nat_lit 42,hF (sIn (sTop 13) 2) "Node.with_parts" (hS "scheme.core" 194) 41) ::
  (nat_lit 44,hD [hE P "__module__" 225 (hS "scheme.core" 194),hE P "__firstlineno__" 229 (hI 16 228),hE P "kind" 232 (hI (-1) 231),hE P "parts" 239 (.ref 35),hE P "with_parts" 247 (.ref 42),hE P "__static_attributes__" 248 (.ref 43),hE P "__dict__" 250 (.ref 46),hE P "__weakref__" 252 (.ref 47),hE P "__doc__" 253 .none] 4) ::
  (nat_lit 45,hC "Node" (.type "object") 45 44 [(.type "object")] [none,none,some (hS "Node" 218),some (hS "Node" 226),some (.builtin "object.__new__"),some (.bool true)] [(.ref 66),(.ref 85),(.ref 104),(.ref 137),(.ref 184),(.ref 217),(.ref 250),(.ref 283)]) ::
  (nat_lit 46,{ cls:=(.type "getset_descriptor"),data:=.fields #[(hS "__dict__" 249),(.ref 45),(.builtin "function.__dict__"),(.builtin "function.__dict__#set")] }) ::
  (nat_lit 47,{ cls:=(.type "getset_descriptor"),data:=.fields #[(hS "__weakref__" 251),(.ref 45),(.builtin "ExceptionGroup.__weakref__"),.none] }) ::
  (nat_lit 62,{ cls:=(.type "code"),data:=.fields #[(hS "__init__" 269),(hS "Const.__init__" 270),(hS "/claim/cut.py" 271),(hI 27 0),(hI 2 0),(hI 0 0),(hI 0 0),(hI 3 0),(.ref 57),(.bool true),(hI 181 0),(.ref 58),.none,(.ref 59),(.ref 60),(.ref 61),(hI 274 0),(hI 27 0),(hS "/claim/cut.py" 275)] }) ::
  (nat_lit 63,hF (sIn (sTop 14) 1) "Const.__init__" (hS "scheme.core" 194) 62) ::
  (nat_lit 65,hD [hE P "__module__" 263 (hS "scheme.core" 194),hE P "__firstlineno__" 267 (hI 24 266),hE P "kind" 268 (hI 0 196),hE P "__init__" 276 (.ref 63),hE P "__static_attributes__" 278 (.ref 64),hE P "__doc__" 279 .none] 2) ::
  (nat_lit 66,hC "Const" (.ref 45) 66 65 [(.ref 45),(.type "object")] [some (.ref 50),none,some (hS "Const" 256),some (hS "Const" 264),some (.builtin "object.__new__"),some (.bool true)] []) ::
  (nat_lit 81,{ cls:=(.type "code"),data:=.fields #[(hS "__init__" 295),(hS "Local.__init__" 296),(hS "/claim/cut.py" 297),(hI 32 0),(hI 2 0),(hI 0 0),(hI 0 0),(hI 3 0),(.ref 76),(.bool true),(hI 181 0),(.ref 77),.none,(.ref 78),(.ref 79),(.ref 80),(hI 300 0),(hI 32 0),(hS "/claim/cut.py" 301)] }) ::
  (nat_lit 82,hF (sIn (sTop 15) 1) "Local.__init__" (hS "scheme.core" 194) 81) ::
  (nat_lit 84,hD [hE P "__module__" 289 (hS "scheme.core" 194),hE P "__firstlineno__" 293 (hI 29 292),hE P "kind" 294 (hI 1 198),hE P "__init__" 302 (.ref 82),hE P "__static_attributes__" 304 (.ref 83),hE P "__doc__" 305 .none] 2) ::
  (nat_lit 85,hC "Local" (.ref 45) 85 84 [(.ref 45),(.type "object")] [some (.ref 69),none,some (hS "Local" 282),some (hS "Local" 290),some (.builtin "object.__new__"),some (.bool true)] []) ::
  (nat_lit 100,{ cls:=(.type "code"),data:=.fields #[(hS "__init__" 321),(hS "Global.__init__" 322),(hS "/claim/cut.py" 323),(hI 37 0),(hI 2 0),(hI 0 0),(hI 0 0),(hI 3 0),(.ref 95),(.bool true),(hI 181 0),(.ref 96),.none,(.ref 97),(.ref 98),(.ref 99),(hI 326 0),(hI 37 0),(hS "/claim/cut.py" 327)] }) ::
  (nat_lit 101,hF (sIn (sTop 16) 1) "Global.__init__" (hS "scheme.core" 194) 100) ::
  (nat_lit 103,hD [hE P "__module__" 315 (hS "scheme.core" 194),hE P "__firstlineno__" 319 (hI 34 318),hE P "kind" 320 (hI 2 200),hE P "__init__" 328 (.ref 101),hE P "__static_attributes__" 330 (.ref 102),hE P "__doc__" 331 .none] 2) ::
  (nat_lit 104,hC "Global" (.ref 45) 104 103 [(.ref 45),(.type "object")] [some (.ref 88),none,some (hS "Global" 308),some (hS "Global" 316),some (.builtin "object.__new__"),some (.bool true)] []) ::
  (nat_lit 119,{ cls:=(.type "code"),data:=.fields #[(hS "__init__" 347),(hS "SetLocal.__init__" 348),(hS "/claim/cut.py" 349),(hI 42 0),(hI 3 0),(hI 0 0),(hI 0 0),(hI 3 0),(.ref 114),(.bool true),(hI 181 0),(.ref 115),.none,(.ref 116),(.ref 117),(.ref 118),(hI 353 0),(hI 42 0),(hS "/claim/cut.py" 354)] }) ::
  (nat_lit 120,hF (sIn (sTop 17) 1) "SetLocal.__init__" (hS "scheme.core" 194) 119) ::
  (nat_lit 126,{ cls:=(.type "code"),data:=.fields #[(hS "parts" 356),(hS "SetLocal.parts" 357),(hS "/claim/cut.py" 358),(hI 46 0),(hI 1 0),(hI 0 0),(hI 0 0),(hI 3 0),(.ref 121),(.bool true),(hI 181 0),(.ref 122),.none,(.ref 123),(.ref 124),(.ref 125),(hI 360 0),(hI 46 0),(hS "/claim/cut.py" 361)] }) ::
  (nat_lit 127,hF (sIn (sTop 17) 2) "SetLocal.parts" (hS "scheme.core" 194) 126) ::
  (nat_lit 133,{ cls:=(.type "code"),data:=.fields #[(hS "with_parts" 363),(hS "SetLocal.with_parts" 364),(hS "/claim/cut.py" 365),(hI 49 0),(hI 2 0),(hI 0 0),(hI 0 0),(hI 3 0),(.ref 128),(.bool true),(hI 181 0),(.ref 129),.none,(.ref 130),(.ref 131),(.ref 132),(hI 368 0),(hI 49 0),(hS "/claim/cut.py" 369)] }) ::
  (nat_lit 134,hF (sIn (sTop 17) 3) "SetLocal.with_parts" (hS "scheme.core" 194) 133) ::
  (nat_lit 136,hD [hE P "__module__" 341 (hS "scheme.core" 194),hE P "__firstlineno__" 345 (hI 39 344),hE P "kind" 346 (hI 3 202),hE P "__init__" 355 (.ref 120),hE P "parts" 362 (.ref 127),hE P "with_parts" 370 (.ref 134),hE P "__static_attributes__" 373 (.ref 135),hE P "__doc__" 374 .none] 2) ::
  (nat_lit 137,hC "SetLocal" (.ref 45) 137 136 [(.ref 45),(.type "object")] [some (.ref 107),none,some (hS "SetLocal" 334),some (hS "SetLocal" 342),some (.builtin "object.__new__"),some (.bool true)] []) ::
  (nat_lit 152,{ cls:=(.type "code"),data:=.fields #[(hS "__init__" 390),(hS "Lambda.__init__" 391),(hS "/claim/cut.py" 392),(hI 54 0),(hI 5 0),(hI 0 0),(hI 0 0),(hI 3 0),(.ref 147),(.bool true),(hI 181 0),(.ref 148),.none,(.ref 149),(.ref 150),(.ref 151),(hI 398 0),(hI 54 0),(hS "/claim/cut.py" 399)] }) ::
  (nat_lit 153,hF (sIn (sTop 18) 1) "Lambda.__init__" (hS "scheme.core" 194) 152) ::
  (nat_lit 159,{ cls:=(.type "code"),data:=.fields #[(hS "parts" 401),(hS "Lambda.parts" 402),(hS "/claim/cut.py" 403),(hI 60 0),(hI 1 0),(hI 0 0),(hI 0 0),(hI 3 0),(.ref 154),(.bool true),(hI 181 0),(.ref 155),.none,(.ref 156),(.ref 157),(.ref 158),(hI 405 0),(hI 60 0),(hS "/claim/cut.py" 406)] }) ::
  (nat_lit 160,hF (sIn (sTop 18) 2) "Lambda.parts" (hS "scheme.core" 194) 159) ::
  (nat_lit 166,{ cls:=(.type "code"),data:=.fields #[(hS "with_parts" 408),(hS "Lambda.with_parts" 409),(hS "/claim/cut.py" 410),(hI 63 0),(hI 2 0),(hI 0 0),(hI 0 0),(hI 3 0),(.ref 161),(.bool true),(hI 181 0),(.ref 162),.none,(.ref 163),(.ref 164),(.ref 165),(hI 413 0),(hI 63 0),(hS "/claim/cut.py" 414)] }) ::
  (nat_lit 167,hF (sIn (sTop 18) 3) "Lambda.with_parts" (hS "scheme.core" 194) 166) ::
  (nat_lit 173,{ cls:=(.type "code"),data:=.fields #[(hS "binders" 416),(hS "Lambda.binders" 417),(hS "/claim/cut.py" 418),(hI 66 0),(hI 1 0),(hI 0 0),(hI 0 0),(hI 3 0),(.ref 168),(.bool true),(hI 181 0),(.ref 169),.none,(.ref 170),(.ref 171),(.ref 172),(hI 420 0),(hI 66 0),(hS "/claim/cut.py" 421)] }) ::
  (nat_lit 174,hF (sIn (sTop 18) 4) "Lambda.binders" (hS "scheme.core" 194) 173) ::
  (nat_lit 180,{ cls:=(.type "code"),data:=.fields #[(hS "takes" 423),(hS "Lambda.takes" 424),(hS "/claim/cut.py" 425),(hI 69 0),(hI 2 0),(hI 0 0),(hI 0 0),(hI 3 0),(.ref 175),(.bool true),(hI 181 0),(.ref 176),.none,(.ref 177),(.ref 178),(.ref 179),(hI 428 0),(hI 69 0),(hS "/claim/cut.py" 429)] }) ::
  (nat_lit 181,hF (sIn (sTop 18) 5) "Lambda.takes" (hS "scheme.core" 194) 180) ::
  (nat_lit 183,hD [hE P "__module__" 384 (hS "scheme.core" 194),hE P "__firstlineno__" 388 (hI 51 387),hE P "kind" 389 (hI 7 208),hE P "__init__" 400 (.ref 153),hE P "parts" 407 (.ref 160),hE P "with_parts" 415 (.ref 167),hE P "binders" 422 (.ref 174),hE P "takes" 430 (.ref 181),hE P "__static_attributes__" 435 (.ref 182),hE P "__doc__" 436 .none] 2) ::
  (nat_lit 184,hC "Lambda" (.ref 45) 184 183 [(.ref 45),(.type "object")] [some (.ref 140),none,some (hS "Lambda" 377),some (hS "Lambda" 385),some (.builtin "object.__new__"),some (.bool true)] []) ::
  (nat_lit 199,{ cls:=(.type "code"),data:=.fields #[(hS "__init__" 452),(hS "Call.__init__" 453),(hS "/claim/cut.py" 454),(hI 74 0),(hI 3 0),(hI 0 0),(hI 0 0),(hI 3 0),(.ref 194),(.bool true),(hI 181 0),(.ref 195),.none,(.ref 196),(.ref 197),(.ref 198),(hI 458 0),(hI 74 0),(hS "/claim/cut.py" 459)] }) ::
  (nat_lit 200,hF (sIn (sTop 19) 1) "Call.__init__" (hS "scheme.core" 194) 199) ::
  (nat_lit 206,{ cls:=(.type "code"),data:=.fields #[(hS "parts" 461),(hS "Call.parts" 462),(hS "/claim/cut.py" 463),(hI 78 0),(hI 1 0),(hI 0 0),(hI 0 0),(hI 3 0),(.ref 201),(.bool true),(hI 181 0),(.ref 202),.none,(.ref 203),(.ref 204),(.ref 205),(hI 465 0),(hI 78 0),(hS "/claim/cut.py" 466)] }) ::
  (nat_lit 207,hF (sIn (sTop 19) 2) "Call.parts" (hS "scheme.core" 194) 206) ::
  (nat_lit 213,{ cls:=(.type "code"),data:=.fields #[(hS "with_parts" 468),(hS "Call.with_parts" 469),(hS "/claim/cut.py" 470),(hI 81 0),(hI 2 0),(hI 0 0),(hI 0 0),(hI 3 0),(.ref 208),(.bool true),(hI 181 0),(.ref 209),.none,(.ref 210),(.ref 211),(.ref 212),(hI 473 0),(hI 81 0),(hS "/claim/cut.py" 474)] }) ::
  (nat_lit 214,hF (sIn (sTop 19) 3) "Call.with_parts" (hS "scheme.core" 194) 213) ::
  (nat_lit 216,hD [hE P "__module__" 446 (hS "scheme.core" 194),hE P "__firstlineno__" 450 (hI 71 449),hE P "kind" 451 (hI 8 210),hE P "__init__" 460 (.ref 200),hE P "parts" 467 (.ref 207),hE P "with_parts" 475 (.ref 214),hE P "__static_attributes__" 478 (.ref 215),hE P "__doc__" 479 .none] 2) ::
  (nat_lit 217,hC "Call" (.ref 45) 217 216 [(.ref 45),(.type "object")] [some (.ref 187),none,some (hS "Call" 439),some (hS "Call" 447),some (.builtin "object.__new__"),some (.bool true)] []) ::
  (nat_lit 232,{ cls:=(.type "code"),data:=.fields #[(hS "__init__" 495),(hS "Seq.__init__" 496),(hS "/claim/cut.py" 497),(hI 86 0),(hI 2 0),(hI 0 0),(hI 0 0),(hI 3 0),(.ref 227),(.bool true),(hI 181 0),(.ref 228),.none,(.ref 229),(.ref 230),(.ref 231),(hI 500 0),(hI 86 0),(hS "/claim/cut.py" 501)] }) ::
  (nat_lit 233,hF (sIn (sTop 20) 1) "Seq.__init__" (hS "scheme.core" 194) 232) ::
  (nat_lit 239,{ cls:=(.type "code"),data:=.fields #[(hS "parts" 503),(hS "Seq.parts" 504),(hS "/claim/cut.py" 505),(hI 89 0),(hI 1 0),(hI 0 0),(hI 0 0),(hI 3 0),(.ref 234),(.bool true),(hI 181 0),(.ref 235),.none,(.ref 236),(.ref 237),(.ref 238),(hI 507 0),(hI 89 0),(hS "/claim/cut.py" 508)] }) ::
  (nat_lit 240,hF (sIn (sTop 20) 2) "Seq.parts" (hS "scheme.core" 194) 239) ::
  (nat_lit 246,{ cls:=(.type "code"),data:=.fields #[(hS "with_parts" 510),(hS "Seq.with_parts" 511),(hS "/claim/cut.py" 512),(hI 92 0),(hI 2 0),(hI 0 0),(hI 0 0),(hI 3 0),(.ref 241),(.bool true),(hI 181 0),(.ref 242),.none,(.ref 243),(.ref 244),(.ref 245),(hI 515 0),(hI 92 0),(hS "/claim/cut.py" 516)] }) ::
  (nat_lit 247,hF (sIn (sTop 20) 3) "Seq.with_parts" (hS "scheme.core" 194) 246) ::
  (nat_lit 249,hD [hE P "__module__" 489 (hS "scheme.core" 194),hE P "__firstlineno__" 493 (hI 83 492),hE P "kind" 494 (hI 9 212),hE P "__init__" 502 (.ref 233),hE P "parts" 509 (.ref 240),hE P "with_parts" 517 (.ref 247),hE P "__static_attributes__" 519 (.ref 248),hE P "__doc__" 520 .none] 2) ::
  (nat_lit 250,hC "Seq" (.ref 45) 250 249 [(.ref 45),(.type "object")] [some (.ref 220),none,some (hS "Seq" 482),some (hS "Seq" 490),some (.builtin "object.__new__"),some (.bool true)] []) ::
  (nat_lit 265,{ cls:=(.type "code"),data:=.fields #[(hS "__init__" 536),(hS "Fix.__init__" 537),(hS "/claim/cut.py" 538),(hI 97 0),(hI 4 0),(hI 0 0),(hI 0 0),(hI 3 0),(.ref 260),(.bool true),(hI 181 0),(.ref 261),.none,(.ref 262),(.ref 263),(.ref 264),(hI 543 0),(hI 97 0),(hS "/claim/cut.py" 544)] }) ::
  (nat_lit 266,hF (sIn (sTop 21) 1) "Fix.__init__" (hS "scheme.core" 194) 265) ::
  (nat_lit 272,{ cls:=(.type "code"),data:=.fields #[(hS "parts" 546),(hS "Fix.parts" 547),(hS "/claim/cut.py" 548),(hI 102 0),(hI 1 0),(hI 0 0),(hI 0 0),(hI 3 0),(.ref 267),(.bool true),(hI 181 0),(.ref 268),.none,(.ref 269),(.ref 270),(.ref 271),(hI 550 0),(hI 102 0),(hS "/claim/cut.py" 551)] }) ::
  (nat_lit 273,hF (sIn (sTop 21) 2) "Fix.parts" (hS "scheme.core" 194) 272) ::
  (nat_lit 279,{ cls:=(.type "code"),data:=.fields #[(hS "with_parts" 553),(hS "Fix.with_parts" 554),(hS "/claim/cut.py" 555),(hI 105 0),(hI 2 0),(hI 0 0),(hI 0 0),(hI 3 0),(.ref 274),(.bool true),(hI 181 0),(.ref 275),.none,(.ref 276),(.ref 277),(.ref 278),(hI 558 0),(hI 105 0),(hS "/claim/cut.py" 559)] }) ::
  (nat_lit 280,hF (sIn (sTop 21) 3) "Fix.with_parts" (hS "scheme.core" 194) 279) ::
  (nat_lit 282,hD [hE P "__module__" 530 (hS "scheme.core" 194),hE P "__firstlineno__" 534 (hI 94 533),hE P "kind" 535 (hI 11 216),hE P "__init__" 545 (.ref 266),hE P "parts" 552 (.ref 273),hE P "with_parts" 560 (.ref 280),hE P "__static_attributes__" 564 (.ref 281),hE P "__doc__" 565 .none] 2) ::
  (nat_lit 283,hC "Fix" (.ref 45) 283 282 [(.ref 45),(.type "object")] [some (.ref 253),none,some (hS "Fix" 523),some (hS "Fix" 531),some (.builtin "object.__new__"),some (.bool true)] []) ::
  (nat_lit 291,{ cls:=(.type "code"),data:=.fields #[(hS "are_same_list" 568),(hS "are_same_list" 569),(hS "/claim/cut.py" 570),(hI 107 0),(hI 2 0),(hI 0 0),(hI 0 0),(hI 3 0),(.ref 286),(.bool true),(hI 181 0),(.ref 287),.none,(.ref 288),(.ref 289),(.ref 290),(hI 574 0),(hI 107 0),(hS "/claim/cut.py" 575)] }) ::
  (nat_lit 292,hF (sTop 22) "are_same_list" (hS "scheme.core" 194) 291) ::
  (nat_lit 298,{ cls:=(.type "code"),data:=.fields #[(hS "rebuilt" 577),(hS "rebuilt" 578),(hS "/claim/cut.py" 579),(hI 114 0),(hI 2 0),(hI 0 0),(hI 0 0),(hI 3 0),(.ref 293),(.bool true),(hI 181 0),(.ref 294),.none,(.ref 295),(.ref 296),(.ref 297),(hI 590 0),(hI 114 0),(hS "/claim/cut.py" 591)] }) ::
  (nat_lit 299,hF (sTop 23) "rebuilt" (hS "scheme.core" 194) 298) ::
  (nat_lit 305,{ cls:=(.type "code"),data:=.fields #[(hS "let_node" 593),(hS "let_node" 594),(hS "/claim/cut.py" 595),(hI 132 0),(hI 4 0),(hI 0 0),(hI 0 0),(hI 3 0),(.ref 300),(.bool true),(hI 181 0),(.ref 301),.none,(.ref 302),(.ref 303),(.ref 304),(hI 600 0),(hI 132 0),(hS "/claim/cut.py" 601)] }) ::
  (nat_lit 306,hF (sTop 24) "let_node" (hS "scheme.core" 194) 305) ::
  (nat_lit 312,{ cls:=(.type "code"),data:=.fields #[(hS "is_let" 603),(hS "is_let" 604),(hS "/claim/cut.py" 605),(hI 134 0),(hI 1 0),(hI 0 0),(hI 0 0),(hI 3 0),(.ref 307),(.bool true),(hI 181 0),(.ref 308),.none,(.ref 309),(.ref 310),(.ref 311),(hI 607 0),(hI 134 0),(hS "/claim/cut.py" 608)] }) ::
  (nat_lit 313,hF (sTop 25) "is_let" (hS "scheme.core" 194) 312) ::
  (nat_lit 319,{ cls:=(.type "code"),data:=.fields #[(hS "seq_of" 610),(hS "seq_of" 611),(hS "/claim/cut.py" 612),(hI 138 0),(hI 1 0),(hI 0 0),(hI 0 0),(hI 3 0),(.ref 314),(.bool true),(hI 181 0),(.ref 315),.none,(.ref 316),(.ref 317),(.ref 318),(hI 614 0),(hI 138 0),(hS "/claim/cut.py" 615)] }) ::
  (nat_lit 320,hF (sTop 26) "seq_of" (hS "scheme.core" 194) 319) ::
  (nat_lit 333,{ cls:=(.type "code"),data:=.fields #[(hS "__init__" 634),(hS "Facts.__init__" 635),(hS "/claim/cut.py" 636),(hI 144 0),(hI 1 0),(hI 0 0),(hI 0 0),(hI 3 0),(.ref 328),(.bool true),(hI 181 0),(.ref 329),.none,(.ref 330),(.ref 331),(.ref 332),(hI 638 0),(hI 144 0),(hS "/claim/cut.py" 639)] }) ::
  (nat_lit 334,hF (sIn (sTop 29) 0) "Facts.__init__" (hS "scheme.facts" 617) 333) ::
  (nat_lit 340,{ cls:=(.type "code"),data:=.fields #[(hS "is_set" 641),(hS "Facts.is_set" 642),(hS "/claim/cut.py" 643),(hI 156 0),(hI 2 0),(hI 0 0),(hI 0 0),(hI 3 0),(.ref 335),(.bool true),(hI 181 0),(.ref 336),.none,(.ref 337),(.ref 338),(.ref 339),(hI 646 0),(hI 156 0),(hS "/claim/cut.py" 647)] }) ::
  (nat_lit 341,hF (sIn (sTop 29) 1) "Facts.is_set" (hS "scheme.facts" 617) 340) ::
  (nat_lit 347,{ cls:=(.type "code"),data:=.fields #[(hS "is_set_global" 649),(hS "Facts.is_set_global" 650),(hS "/claim/cut.py" 651),(hI 159 0),(hI 2 0),(hI 0 0),(hI 0 0),(hI 3 0),(.ref 342),(.bool true),(hI 181 0),(.ref 343),.none,(.ref 344),(.ref 345),(.ref 346),(hI 654 0),(hI 159 0),(hS "/claim/cut.py" 655)] }) ::
  (nat_lit 348,hF (sIn (sTop 29) 2) "Facts.is_set_global" (hS "scheme.facts" 617) 347) ::
  (nat_lit 354,{ cls:=(.type "code"),data:=.fields #[(hS "times_read" 657),(hS "Facts.times_read" 658),(hS "/claim/cut.py" 659),(hI 162 0),(hI 2 0),(hI 0 0),(hI 0 0),(hI 3 0),(.ref 349),(.bool true),(hI 181 0),(.ref 350),.none,(.ref 351),(.ref 352),(.ref 353),(hI 662 0),(hI 162 0),(hS "/claim/cut.py" 663)] }) ::
  (nat_lit 355,hF (sIn (sTop 29) 3) "Facts.times_read" (hS "scheme.facts" 617) 354) ::
  (nat_lit 361,{ cls:=(.type "code"),data:=.fields #[(hS "times_called" 665),(hS "Facts.times_called" 666),(hS "/claim/cut.py" 667),(hI 165 0),(hI 2 0),(hI 0 0),(hI 0 0),(hI 3 0),(.ref 356),(.bool true),(hI 181 0),(.ref 357),.none,(.ref 358),(.ref 359),(.ref 360),(hI 670 0),(hI 165 0),(hS "/claim/cut.py" 671)] }) ::
  (nat_lit 362,hF (sIn (sTop 29) 4) "Facts.times_called" (hS "scheme.facts" 617) 361) ::
  (nat_lit 368,{ cls:=(.type "code"),data:=.fields #[(hS "free" 673),(hS "Facts.free" 674),(hS "/claim/cut.py" 675),(hI 168 0),(hI 2 0),(hI 0 0),(hI 0 0),(hI 3 0),(.ref 363),(.bool true),(hI 181 0),(.ref 364),.none,(.ref 365),(.ref 366),(.ref 367),(hI 678 0),(hI 168 0),(hS "/claim/cut.py" 679)] }) ::
  (nat_lit 369,hF (sIn (sTop 29) 5) "Facts.free" (hS "scheme.facts" 617) 368) ::
  (nat_lit 375,{ cls:=(.type "code"),data:=.fields #[(hS "meet" 681),(hS "Facts.meet" 682),(hS "/claim/cut.py" 683),(hI 171 0),(hI 3 0),(hI 0 0),(hI 0 0),(hI 3 0),(.ref 370),(.bool true),(hI 181 0),(.ref 371),.none,(.ref 372),(.ref 373),(.ref 374),(hI 688 0),(hI 171 0),(hS "/claim/cut.py" 689)] }) ::
  (nat_lit 376,hF (sIn (sTop 29) 6) "Facts.meet" (hS "scheme.facts" 617) 375) ::
  (nat_lit 378,hD [hE P "__module__" 629 (hS "scheme.facts" 617),hE P "__firstlineno__" 633 (hI 142 632),hE P "__init__" 640 (.ref 334),hE P "is_set" 648 (.ref 341),hE P "is_set_global" 656 (.ref 348),hE P "times_read" 664 (.ref 355),hE P "times_called" 672 (.ref 362),hE P "free" 680 (.ref 369),hE P "meet" 690 (.ref 376),hE P "__static_attributes__" 701 (.ref 377),hE P "__dict__" 703 (.ref 380),hE P "__weakref__" 705 (.ref 381),hE P "__doc__" 706 .none] 4) ::
  (nat_lit 379,hC "Facts" (.type "object") 379 378 [(.type "object")] [none,none,some (hS "Facts" 622),some (hS "Facts" 630),some (.builtin "object.__new__"),some (.bool true)] []) ::
  (nat_lit 380,{ cls:=(.type "getset_descriptor"),data:=.fields #[(hS "__dict__" 702),(.ref 379),(.builtin "function.__dict__"),(.builtin "function.__dict__#set")] }) ::
  (nat_lit 381,{ cls:=(.type "getset_descriptor"),data:=.fields #[(hS "__weakref__" 704),(.ref 379),(.builtin "ExceptionGroup.__weakref__"),.none] }) ::
  (nat_lit 389,{ cls:=(.type "code"),data:=.fields #[(hS "count_in" 709),(hS "count_in" 710),(hS "/claim/cut.py" 711),(hI 178 0),(hI 2 0),(hI 0 0),(hI 0 0),(hI 3 0),(.ref 384),(.bool true),(hI 181 0),(.ref 385),.none,(.ref 386),(.ref 387),(.ref 388),(hI 714 0),(hI 178 0),(hS "/claim/cut.py" 715)] }) ::
  (nat_lit 390,hF (sTop 30) "count_in" (hS "scheme.facts" 617) 389) ::
  (nat_lit 396,{ cls:=(.type "code"),data:=.fields #[(hS "note_node" 717),(hS "note_node" 718),(hS "/claim/cut.py" 719),(hI 180 0),(hI 3 0),(hI 0 0),(hI 0 0),(hI 3 0),(.ref 391),(.bool true),(hI 181 0),(.ref 392),.none,(.ref 393),(.ref 394),(.ref 395),(hI 724 0),(hI 180 0),(hS "/claim/cut.py" 725)] }) ::
  (nat_lit 397,hF (sTop 31) "note_node" (hS "scheme.facts" 617) 396) ::
  (nat_lit 403,{ cls:=(.type "code"),data:=.fields #[(hS "facts_of" 727),(hS "facts_of" 728),(hS "/claim/cut.py" 729),(hI 204 0),(hI 1 0),(hI 0 0),(hI 0 0),(hI 3 0),(.ref 398),(.bool true),(hI 181 0),(.ref 399),.none,(.ref 400),(.ref 401),(.ref 402),(hI 738 0),(hI 204 0),(hS "/claim/cut.py" 739)] }) ::
  (nat_lit 404,hF (sTop 32) "facts_of" (hS "scheme.facts" 617) 403) ::
  (nat_lit 417,{ cls:=(.type "code"),data:=.fields #[(hS "__init__" 755),(hS "Special.__init__" 756),(hS "/claim/cut.py" 757),(hI 218 0),(hI 2 0),(hI 0 0),(hI 0 0),(hI 3 0),(.ref 412),(.bool true),(hI 181 0),(.ref 413),.none,(.ref 414),(.ref 415),(.ref 416),(hI 760 0),(hI 218 0),(hS "/claim/cut.py" 761)] }) ::
  (nat_lit 418,hF (sIn (sTop 34) 0) "Special.__init__" (hS "scheme.data" 741) 417) ::
  (nat_lit 420,hD [hE P "__module__" 750 (hS "scheme.data" 741),hE P "__firstlineno__" 754 (hI 216 753),hE P "__init__" 762 (.ref 418),hE P "__static_attributes__" 764 (.ref 419),hE P "__dict__" 766 (.ref 422),hE P "__weakref__" 768 (.ref 423),hE P "__doc__" 769 .none] 4) ::
  (nat_lit 421,hC "Special" (.type "object") 421 420 [(.type "object")] [none,none,some (hS "Special" 743),some (hS "Special" 751),some (.builtin "object.__new__"),some (.bool true)] []) ::
  (nat_lit 422,{ cls:=(.type "getset_descriptor"),data:=.fields #[(hS "__dict__" 765),(.ref 421),(.builtin "function.__dict__"),(.builtin "function.__dict__#set")] }) ::
  (nat_lit 423,{ cls:=(.type "getset_descriptor"),data:=.fields #[(hS "__weakref__" 767),(.ref 421),(.builtin "ExceptionGroup.__weakref__"),.none] }) ::
  (nat_lit 426,hD [hE P "title" 776 (hS "unassigned" 772)] 1) ::
  (nat_lit 427,{ cls:=(.ref 421),dict:=some 426 }) ::
  (nat_lit 441,{ cls:=(.type "code"),data:=.fields #[(hS "__init__" 790),(hS "Pair.__init__" 791),(hS "/claim/cut.py" 792),(hI 223 0),(hI 3 0),(hI 0 0),(hI 0 0),(hI 3 0),(.ref 436),(.bool true),(hI 181 0),(.ref 437),.none,(.ref 438),(.ref 439),(.ref 440),(hI 796 0),(hI 223 0),(hS "/claim/cut.py" 797)] }) ::
  (nat_lit 442,hF (sIn (sTop 36) 0) "Pair.__init__" (hS "scheme.data" 741) 441) ::
  (nat_lit 444,hD [hE P "__module__" 785 (hS "scheme.data" 741),hE P "__firstlineno__" 789 (hI 221 788),hE P "__init__" 798 (.ref 442),hE P "__static_attributes__" 802 (.ref 443),hE P "__dict__" 804 (.ref 446),hE P "__weakref__" 806 (.ref 447),hE P "__doc__" 807 .none] 4) ::
  (nat_lit 445,hC "Pair" (.type "object") 445 444 [(.type "object")] [none,none,some (hS "Pair" 778),some (hS "Pair" 786),some (.builtin "object.__new__"),some (.bool true)] []) ::
  (nat_lit 446,{ cls:=(.type "getset_descriptor"),data:=.fields #[(hS "__dict__" 803),(.ref 445),(.builtin "function.__dict__"),(.builtin "function.__dict__#set")] }) ::
  (nat_lit 447,{ cls:=(.type "getset_descriptor"),data:=.fields #[(hS "__weakref__" 805),(.ref 445),(.builtin "ExceptionGroup.__weakref__"),.none] }) ::
  (nat_lit 455,{ cls:=(.type "code"),data:=.fields #[(hS "is_unassigned" 812),(hS "is_unassigned" 813),(hS "/claim/cut.py" 814),(hI 228 0),(hI 1 0),(hI 0 0),(hI 0 0),(hI 3 0),(.ref 450),(.bool true),(hI 181 0),(.ref 451),.none,(.ref 452),(.ref 453),(.ref 454),(hI 816 0),(hI 228 0),(hS "/claim/cut.py" 817)] }) ::
  (nat_lit 456,hF (sTop 38) "is_unassigned" (hS "scheme.quiet" 810) 455) ::
  (nat_lit 462,{ cls:=(.type "code"),data:=.fields #[(hS "begun_late" 821),(hS "begun_late" 822),(hS "/claim/cut.py" 823),(hI 231 0),(hI 1 0),(hI 0 0),(hI 0 0),(hI 3 0),(.ref 457),(.bool true),(hI 181 0),(.ref 458),.none,(.ref 459),(.ref 460),(.ref 461),(hI 828 0),(hI 231 0),(hS "/claim/cut.py" 829)] }) ::
  (nat_lit 463,hF (sTop 40) "begun_late" (hS "scheme.fixing" 819) 462) ::
  (nat_lit 476,{ cls:=(.type "code"),data:=.fields #[(hS "__init__" 843),(hS "Fixing.__init__" 844),(hS "/claim/cut.py" 845),(hI 239 0),(hI 2 0),(hI 0 0),(hI 0 0),(hI 3 0),(.ref 471),(.bool true),(hI 181 0),(.ref 472),.none,(.ref 473),(.ref 474),(.ref 475),(hI 848 0),(hI 239 0),(hS "/claim/cut.py" 849)] }) ::
  (nat_lit 477,hF (sIn (sTop 41) 0) "Fixing.__init__" (hS "scheme.fixing" 819) 476) ::
  (nat_lit 483,{ cls:=(.type "code"),data:=.fields #[(hS "is_early" 851),(hS "Fixing.is_early" 852),(hS "/claim/cut.py" 853),(hI 242 0),(hI 2 0),(hI 0 0),(hI 0 0),(hI 3 0),(.ref 478),(.bool true),(hI 181 0),(.ref 479),.none,(.ref 480),(.ref 481),(.ref 482),(hI 856 0),(hI 242 0),(hS "/claim/cut.py" 857)] }) ::
  (nat_lit 484,hF (sIn (sTop 41) 1) "Fixing.is_early" (hS "scheme.fixing" 819) 483) ::
  (nat_lit 490,{ cls:=(.type "code"),data:=.fields #[(hS "turned" 859),(hS "Fixing.turned" 860),(hS "/claim/cut.py" 861),(hI 245 0),(hI 2 0),(hI 0 0),(hI 0 0),(hI 3 0),(.ref 485),(.bool true),(hI 181 0),(.ref 486),.none,(.ref 487),(.ref 488),(.ref 489),(hI 871 0),(hI 245 0),(hS "/claim/cut.py" 872)] }) ::
  (nat_lit 491,hF (sIn (sTop 41) 2) "Fixing.turned" (hS "scheme.fixing" 819) 490) ::
  (nat_lit 497,{ cls:=(.type "code"),data:=.fields #[(hS "without" 874),(hS "Fixing.without" 875),(hS "/claim/cut.py" 876),(hI 266 0),(hI 4 0),(hI 0 0),(hI 0 0),(hI 3 0),(.ref 492),(.bool true),(hI 181 0),(.ref 493),.none,(.ref 494),(.ref 495),(.ref 496),(hI 885 0),(hI 266 0),(hS "/claim/cut.py" 886)] }) ::
  (nat_lit 498,hF (sIn (sTop 41) 3) "Fixing.without" (hS "scheme.fixing" 819) 497) ::
  (nat_lit 500,hD [hE P "__module__" 838 (hS "scheme.fixing" 819),hE P "__firstlineno__" 842 (hI 237 841),hE P "__init__" 850 (.ref 477),hE P "is_early" 858 (.ref 484),hE P "turned" 873 (.ref 491),hE P "without" 887 (.ref 498),hE P "__static_attributes__" 889 (.ref 499),hE P "__dict__" 891 (.ref 502),hE P "__weakref__" 893 (.ref 503),hE P "__doc__" 894 .none] 4) ::
  (nat_lit 501,hC "Fixing" (.type "object") 501 500 [(.type "object")] [none,none,some (hS "Fixing" 831),some (hS "Fixing" 839),some (.builtin "object.__new__"),some (.bool true)] []) ::
  (nat_lit 502,{ cls:=(.type "getset_descriptor"),data:=.fields #[(hS "__dict__" 890),(.ref 501),(.builtin "function.__dict__"),(.builtin "function.__dict__#set")] }) ::
  (nat_lit 503,{ cls:=(.type "getset_descriptor"),data:=.fields #[(hS "__weakref__" 892),(.ref 501),(.builtin "ExceptionGroup.__weakref__"),.none] }) ::
  (nat_lit 511,{ cls:=(.type "code"),data:=.fields #[(hS "fixed" 897),(hS "fixed" 898),(hS "/claim/cut.py" 899),(hI 274 0),(hI 1 0),(hI 0 0),(hI 0 0),(hI 3 0),(.ref 506),(.bool true),(hI 181 0),(.ref 507),.none,(.ref 508),(.ref 509),(.ref 510),(hI 901 0),(hI 274 0),(hS "/claim/cut.py" 902)] }) ::
  (nat_lit 512,hF (sTop 42) "fixed" (hS "scheme.fixing" 819) 511) ::
  (nat_lit 518,{ cls:=(.type "code"),data:=.fields #[(hS "_law_draw" 906),(hS "_law_draw" 907),(hS "/claim/cut.py" 908),(hI 277 0),(hI 2 0),(hI 0 0),(hI 0 0),(hI 3 0),(.ref 513),(.bool true),(hI 181 0),(.ref 514),.none,(.ref 515),(.ref 516),(.ref 517),(hI 912 0),(hI 277 0),(hS "/claim/cut.py" 913)] }) ::
  (nat_lit 519,hF (sTop 44) "_law_draw" (hS "law_pq1024_01" 904) 518) ::
  (nat_lit 523,{ cls:=(.type "code"),data:=.fields #[(hS "_law_deck_of" 915),(hS "_law_deck_of" 916),(hS "/claim/cut.py" 917),(hI 285 0),(hI 1 0),(hI 0 0),(hI 0 0),(hI 3 0),(.ref 520),(.bool true),(hI 181 0),(.ref 521),.none,.none,.none,(.ref 522),(hI 918 0),(hI 285 0),(hS "/claim/cut.py" 919)] }) ::
  (nat_lit 524,hF (sTop 45) "_law_deck_of" (hS "law_pq1024_01" 904) 523) ::
  (nat_lit 530,{ cls:=(.type "code"),data:=.fields #[(hS "_law_one" 921),(hS "_law_one" 922),(hS "/claim/cut.py" 923),(hI 287 0),(hI 2 0),(hI 0 0),(hI 0 0),(hI 3 0),(.ref 525),(.bool true),(hI 181 0),(.ref 526),.none,(.ref 527),(.ref 528),(.ref 529),(hI 926 0),(hI 287 0),(hS "/claim/cut.py" 927)] }) ::
  (nat_lit 531,hF (sTop 46) "_law_one" (hS "law_pq1024_01" 904) 530) ::
  (nat_lit 537,{ cls:=(.type "code"),data:=.fields #[(hS "_law_new" 929),(hS "_law_new" 930),(hS "/claim/cut.py" 931),(hI 289 0),(hI 2 0),(hI 0 0),(hI 0 0),(hI 3 0),(.ref 532),(.bool true),(hI 181 0),(.ref 533),.none,(.ref 534),(.ref 535),(.ref 536),(hI 934 0),(hI 289 0),(hS "/claim/cut.py" 935)] }) ::
  (nat_lit 538,hF (sTop 47) "_law_new" (hS "law_pq1024_01" 904) 537) ::
  (nat_lit 542,{ cls:=(.type "code"),data:=.fields #[(hS "_law_told" 937),(hS "_law_told" 938),(hS "/claim/cut.py" 939),(hI 292 0),(hI 1 0),(hI 0 0),(hI 0 0),(hI 3 0),(.ref 539),(.bool true),(hI 181 0),(.ref 540),.none,.none,.none,(.ref 541),(hI 940 0),(hI 292 0),(hS "/claim/cut.py" 941)] }) ::
  (nat_lit 543,hF (sTop 48) "_law_told" (hS "law_pq1024_01" 904) 542) ::
  (nat_lit 549,{ cls:=(.type "code"),data:=.fields #[(hS "_law_value_of" 943),(hS "_law_value_of" 944),(hS "/claim/cut.py" 945),(hI 307 0),(hI 4 0),(hI 0 0),(hI 0 0),(hI 3 0),(.ref 544),(.bool true),(hI 181 0),(.ref 545),.none,(.ref 546),(.ref 547),(.ref 548),(hI 954 0),(hI 307 0),(hS "/claim/cut.py" 955)] }) ::
  (nat_lit 550,hF (sTop 49) "_law_value_of" (hS "law_pq1024_01" 904) 549) ::
  (nat_lit 554,{ cls:=(.type "code"),data:=.fields #[(hS "_law_late" 957),(hS "_law_late" 958),(hS "/claim/cut.py" 959),(hI 314 0),(hI 4 0),(hI 0 0),(hI 0 0),(hI 3 0),(.ref 551),(.bool true),(hI 181 0),(.ref 552),.none,.none,.none,(.ref 553),(hI 960 0),(hI 314 0),(hS "/claim/cut.py" 961)] }) ::
  (nat_lit 555,hF (sTop 50) "_law_late" (hS "law_pq1024_01" 904) 554) ::
  (nat_lit 559,{ cls:=(.type "code"),data:=.fields #[(hS "_law_times_set" 963),(hS "_law_times_set" 964),(hS "/claim/cut.py" 965),(hI 325 0),(hI 2 0),(hI 0 0),(hI 0 0),(hI 3 0),(.ref 556),(.bool true),(hI 181 0),(.ref 557),.none,.none,.none,(.ref 558),(hI 966 0),(hI 325 0),(hS "/claim/cut.py" 967)] }) ::
  (nat_lit 560,hF (sTop 51) "_law_times_set" (hS "law_pq1024_01" 904) 559) ::
  (nat_lit 564,{ cls:=(.type "code"),data:=.fields #[(hS "_law_due_of" 969),(hS "_law_due_of" 970),(hS "/claim/cut.py" 971),(hI 327 0),(hI 2 0),(hI 0 0),(hI 0 0),(hI 3 0),(.ref 561),(.bool true),(hI 181 0),(.ref 562),.none,.none,.none,(.ref 563),(hI 972 0),(hI 327 0),(hS "/claim/cut.py" 973)] }) ::
  (nat_lit 565,hF (sTop 52) "_law_due_of" (hS "law_pq1024_01" 904) 564) ::
  (nat_lit 571,{ cls:=(.type "code"),data:=.fields #[(hS "law" 975),(hS "law" 976),(hS "/claim/cut.py" 977),(hI 354 0),(hI 1 0),(hI 0 0),(hI 0 0),(hI 3 0),(.ref 566),(.bool true),(hI 181 0),(.ref 567),.none,(.ref 568),(.ref 569),(.ref 570),(hI 986 0),(hI 354 0),(hS "/claim/cut.py" 987)] }) ::
  (nat_lit 572,hF (sTop 53) "law" (hS "law_pq1024_01" 904) 571)::[]
noncomputable def adr:List Addr:=2::3::20::21::34::35::41::42::44::45::46::47::62::63::65::66::81::82::84::85::100::101::103::104::119::120::126::127::133::134::136::137::152::153::159::160::166::167::173::174::180::181::183::184::199::200::206::207::213::214::216::217::232::233::239::240::246::247::249::250::265::266::272::273::279::280::282::283::291::292::298::299::305::306::312::313::319::320::333::334::340::341::347::348::354::355::361::362::368::369::375::376::378::379::380::381::389::390::396::397::403::404::417::418::420::421::422::423::426::427::441::442::444::445::446::447::455::456::462::463::476::477::483::484::490::491::497::498::500::501::502::503::511::512::518::519::523::524::530::531::537::538::542::543::549::550::554::555::559::560::564::565::571::572::[]
end
end
section
section
universe u
variable {q:Prop}
theorem ex1 {A0:Sort _} {p:A0→Prop} (h:∃ a0,p a0) (k:∀ a0,p a0→q):q:=h.elim k
theorem ex2 {A0:Sort _} {A1:Sort _} {p:A0→A1→Prop} (h:∃ a0 a1,p a0 a1) (k:∀ a0 a1,p a0 a1→q):q:=h.elim fun a0 h=>ex1 h (k a0)
theorem ex3 {A0:Sort _} {A1:Sort _} {A2:Sort _} {p:A0→A1→A2→Prop} (h:∃ a0 a1 a2,p a0 a1 a2) (k:∀ a0 a1 a2,p a0 a1 a2→q):q:=h.elim fun a0 h=>ex2 h (k a0)
theorem ex4 {A0:Sort _} {A1:Sort _} {A2:Sort _} {A3:Sort _} {p:A0→A1→A2→A3→Prop} (h:∃ a0 a1 a2 a3,p a0 a1 a2 a3) (k:∀ a0 a1 a2 a3,p a0 a1 a2 a3→q):q:=h.elim fun a0 h=>ex3 h (k a0)
theorem ex5 {A0:Sort _} {A1:Sort _} {A2:Sort _} {A3:Sort _} {A4:Sort _} {p:A0→A1→A2→A3→A4→Prop} (h:∃ a0 a1 a2 a3 a4,p a0 a1 a2 a3 a4) (k:∀ a0 a1 a2 a3 a4,p a0 a1 a2 a3 a4→q):q:=h.elim fun a0 h=>ex4 h (k a0)
theorem ex6 {A0:Sort _} {A1:Sort _} {A2:Sort _} {A3:Sort _} {A4:Sort _} {A5:Sort _} {p:A0→A1→A2→A3→A4→A5→Prop} (h:∃ a0 a1 a2 a3 a4 a5,p a0 a1 a2 a3 a4 a5) (k:∀ a0 a1 a2 a3 a4 a5,p a0 a1 a2 a3 a4 a5→q):q:=h.elim fun a0 h=>ex5 h (k a0)
theorem ex7 {A0:Sort _} {A1:Sort _} {A2:Sort _} {A3:Sort _} {A4:Sort _} {A5:Sort _} {A6:Sort _} {p:A0→A1→A2→A3→A4→A5→A6→Prop} (h:∃ a0 a1 a2 a3 a4 a5 a6,p a0 a1 a2 a3 a4 a5 a6) (k:∀ a0 a1 a2 a3 a4 a5 a6,p a0 a1 a2 a3 a4 a5 a6→q):q:=h.elim fun a0 h=>ex6 h (k a0)
theorem ex8 {A0:Sort _} {A1:Sort _} {A2:Sort _} {A3:Sort _} {A4:Sort _} {A5:Sort _} {A6:Sort _} {A7:Sort _} {p:A0→A1→A2→A3→A4→A5→A6→A7→Prop} (h:∃ a0 a1 a2 a3 a4 a5 a6 a7,p a0 a1 a2 a3 a4 a5 a6 a7) (k:∀ a0 a1 a2 a3 a4 a5 a6 a7,p a0 a1 a2 a3 a4 a5 a6 a7→q):q:=h.elim fun a0 h=>ex7 h (k a0)
theorem ex9 {A0:Sort _} {A1:Sort _} {A2:Sort _} {A3:Sort _} {A4:Sort _} {A5:Sort _} {A6:Sort _} {A7:Sort _} {A8:Sort _} {p:A0→A1→A2→A3→A4→A5→A6→A7→A8→Prop} (h:∃ a0 a1 a2 a3 a4 a5 a6 a7 a8,p a0 a1 a2 a3 a4 a5 a6 a7 a8) (k:∀ a0 a1 a2 a3 a4 a5 a6 a7 a8,p a0 a1 a2 a3 a4 a5 a6 a7 a8→q):q:=h.elim fun a0 h=>ex8 h (k a0)
theorem ex10 {A0:Sort _} {A1:Sort _} {A2:Sort _} {A3:Sort _} {A4:Sort _} {A5:Sort _} {A6:Sort _} {A7:Sort _} {A8:Sort _} {A9:Sort _} {p:A0→A1→A2→A3→A4→A5→A6→A7→A8→A9→Prop} (h:∃ a0 a1 a2 a3 a4 a5 a6 a7 a8 a9,p a0 a1 a2 a3 a4 a5 a6 a7 a8 a9) (k:∀ a0 a1 a2 a3 a4 a5 a6 a7 a8 a9,p a0 a1 a2 a3 a4 a5 a6 a7 a8 a9→q):q:=h.elim fun a0 h=>ex9 h (k a0)
theorem ex11 {A0:Sort _} {A1:Sort _} {A2:Sort _} {A3:Sort _} {A4:Sort _} {A5:Sort _} {A6:Sort _} {A7:Sort _} {A8:Sort _} {A9:Sort _} {A10:Sort _} {p:A0→A1→A2→A3→A4→A5→A6→A7→A8→A9→A10→Prop} (h:∃ a0 a1 a2 a3 a4 a5 a6 a7 a8 a9 a10,p a0 a1 a2 a3 a4 a5 a6 a7 a8 a9 a10) (k:∀ a0 a1 a2 a3 a4 a5 a6 a7 a8 a9 a10,p a0 a1 a2 a3 a4 a5 a6 a7 a8 a9 a10→q):q:=h.elim fun a0 h=>ex10 h (k a0)
theorem ex12 {A0:Sort _} {A1:Sort _} {A2:Sort _} {A3:Sort _} {A4:Sort _} {A5:Sort _} {A6:Sort _} {A7:Sort _} {A8:Sort _} {A9:Sort _} {A10:Sort _} {A11:Sort _} {p:A0→A1→A2→A3→A4→A5→A6→A7→A8→A9→A10→A11→Prop} (h:∃ a0 a1 a2 a3 a4 a5 a6 a7 a8 a9 a10 a11,p a0 a1 a2 a3 a4 a5 a6 a7 a8 a9 a10 a11) (k:∀ a0 a1 a2 a3 a4 a5 a6 a7 a8 a9 a10 a11,p a0 a1 a2 a3 a4 a5 a6 a7 a8 a9 a10 a11→q):q:=h.elim fun a0 h=>ex11 h (k a0)
theorem ex13 {A0:Sort _} {A1:Sort _} {A2:Sort _} {A3:Sort _} {A4:Sort _} {A5:Sort _} {A6:Sort _} {A7:Sort _} {A8:Sort _} {A9:Sort _} {A10:Sort _} {A11:Sort _} {A12:Sort _} {p:A0→A1→A2→A3→A4→A5→A6→A7→A8→A9→A10→A11→A12→Prop} (h:∃ a0 a1 a2 a3 a4 a5 a6 a7 a8 a9 a10 a11 a12,p a0 a1 a2 a3 a4 a5 a6 a7 a8 a9 a10 a11 a12) (k:∀ a0 a1 a2 a3 a4 a5 a6 a7 a8 a9 a10 a11 a12,p a0 a1 a2 a3 a4 a5 a6 a7 a8 a9 a10 a11 a12→q):q:=h.elim fun a0 h=>ex12 h (k a0)
theorem ex14 {A0:Sort _} {A1:Sort _} {A2:Sort _} {A3:Sort _} {A4:Sort _} {A5:Sort _} {A6:Sort _} {A7:Sort _} {A8:Sort _} {A9:Sort _} {A10:Sort _} {A11:Sort _} {A12:Sort _} {A13:Sort _} {p:A0→A1→A2→A3→A4→A5→A6→A7→A8→A9→A10→A11→A12→A13→Prop} (h:∃ a0 a1 a2 a3 a4 a5 a6 a7 a8 a9 a10 a11 a12 a13,p a0 a1 a2 a3 a4 a5 a6 a7 a8 a9 a10 a11 a12 a13) (k:∀ a0 a1 a2 a3 a4 a5 a6 a7 a8 a9 a10 a11 a12 a13,p a0 a1 a2 a3 a4 a5 a6 a7 a8 a9 a10 a11 a12 a13→q):q:=h.elim fun a0 h=>ex13 h (k a0)
theorem an2 {c0 c1:Prop} (h:c0∧c1) (k:c0→c1→q):q:=k h.1 h.2
theorem an3 {c0 c1 c2:Prop} (h:c0∧c1∧c2) (k:c0→c1→c2→q):q:=an2 h.2 (k h.1)
theorem an4 {c0 c1 c2 c3:Prop} (h:c0∧c1∧c2∧c3) (k:c0→c1→c2→c3→q):q:=an3 h.2 (k h.1)
theorem an5 {c0 c1 c2 c3 c4:Prop} (h:c0∧c1∧c2∧c3∧c4) (k:c0→c1→c2→c3→c4→q):q:=an4 h.2 (k h.1)
theorem an6 {c0 c1 c2 c3 c4 c5:Prop} (h:c0∧c1∧c2∧c3∧c4∧c5) (k:c0→c1→c2→c3→c4→c5→q):q:=an5 h.2 (k h.1)
theorem an7 {c0 c1 c2 c3 c4 c5 c6:Prop} (h:c0∧c1∧c2∧c3∧c4∧c5∧c6) (k:c0→c1→c2→c3→c4→c5→c6→q):q:=an6 h.2 (k h.1)
theorem an8 {c0 c1 c2 c3 c4 c5 c6 c7:Prop} (h:c0∧c1∧c2∧c3∧c4∧c5∧c6∧c7) (k:c0→c1→c2→c3→c4→c5→c6→c7→q):q:=an7 h.2 (k h.1)
theorem an9 {c0 c1 c2 c3 c4 c5 c6 c7 c8:Prop} (h:c0∧c1∧c2∧c3∧c4∧c5∧c6∧c7∧c8) (k:c0→c1→c2→c3→c4→c5→c6→c7→c8→q):q:=an8 h.2 (k h.1)
theorem an10 {c0 c1 c2 c3 c4 c5 c6 c7 c8 c9:Prop} (h:c0∧c1∧c2∧c3∧c4∧c5∧c6∧c7∧c8∧c9) (k:c0→c1→c2→c3→c4→c5→c6→c7→c8→c9→q):q:=an9 h.2 (k h.1)
theorem mk1 {A0:Sort _} {p:A0→Prop} (a0:A0) (h:p a0):∃ a0,p a0:=⟨a0,h⟩
theorem mk2 {A0:Sort _} {A1:Sort _} {p:A0→A1→Prop} (a0:A0) (a1:A1) (h:p a0 a1):∃ a0 a1,p a0 a1:=⟨a0,a1,h⟩
theorem mk3 {A0:Sort _} {A1:Sort _} {A2:Sort _} {p:A0→A1→A2→Prop} (a0:A0) (a1:A1) (a2:A2) (h:p a0 a1 a2):∃ a0 a1 a2,p a0 a1 a2:=⟨a0,a1,a2,h⟩
theorem mk4 {A0:Sort _} {A1:Sort _} {A2:Sort _} {A3:Sort _} {p:A0→A1→A2→A3→Prop} (a0:A0) (a1:A1) (a2:A2) (a3:A3) (h:p a0 a1 a2 a3):∃ a0 a1 a2 a3,p a0 a1 a2 a3:=⟨a0,a1,a2,a3,h⟩
theorem mk5 {A0:Sort _} {A1:Sort _} {A2:Sort _} {A3:Sort _} {A4:Sort _} {p:A0→A1→A2→A3→A4→Prop} (a0:A0) (a1:A1) (a2:A2) (a3:A3) (a4:A4) (h:p a0 a1 a2 a3 a4):∃ a0 a1 a2 a3 a4,p a0 a1 a2 a3 a4:=⟨a0,a1,a2,a3,a4,h⟩
theorem mk6 {A0:Sort _} {A1:Sort _} {A2:Sort _} {A3:Sort _} {A4:Sort _} {A5:Sort _} {p:A0→A1→A2→A3→A4→A5→Prop} (a0:A0) (a1:A1) (a2:A2) (a3:A3) (a4:A4) (a5:A5) (h:p a0 a1 a2 a3 a4 a5):∃ a0 a1 a2 a3 a4 a5,p a0 a1 a2 a3 a4 a5:=⟨a0,a1,a2,a3,a4,a5,h⟩
theorem mk7 {A0:Sort _} {A1:Sort _} {A2:Sort _} {A3:Sort _} {A4:Sort _} {A5:Sort _} {A6:Sort _} {p:A0→A1→A2→A3→A4→A5→A6→Prop} (a0:A0) (a1:A1) (a2:A2) (a3:A3) (a4:A4) (a5:A5) (a6:A6) (h:p a0 a1 a2 a3 a4 a5 a6):∃ a0 a1 a2 a3 a4 a5 a6,p a0 a1 a2 a3 a4 a5 a6:=⟨a0,a1,a2,a3,a4,a5,a6,h⟩
theorem mk8 {A0:Sort _} {A1:Sort _} {A2:Sort _} {A3:Sort _} {A4:Sort _} {A5:Sort _} {A6:Sort _} {A7:Sort _} {p:A0→A1→A2→A3→A4→A5→A6→A7→Prop} (a0:A0) (a1:A1) (a2:A2) (a3:A3) (a4:A4) (a5:A5) (a6:A6) (a7:A7) (h:p a0 a1 a2 a3 a4 a5 a6 a7):∃ a0 a1 a2 a3 a4 a5 a6 a7,p a0 a1 a2 a3 a4 a5 a6 a7:=⟨a0,a1,a2,a3,a4,a5,a6,a7,h⟩
theorem mk9 {A0:Sort _} {A1:Sort _} {A2:Sort _} {A3:Sort _} {A4:Sort _} {A5:Sort _} {A6:Sort _} {A7:Sort _} {A8:Sort _} {p:A0→A1→A2→A3→A4→A5→A6→A7→A8→Prop} (a0:A0) (a1:A1) (a2:A2) (a3:A3) (a4:A4) (a5:A5) (a6:A6) (a7:A7) (a8:A8) (h:p a0 a1 a2 a3 a4 a5 a6 a7 a8):∃ a0 a1 a2 a3 a4 a5 a6 a7 a8,p a0 a1 a2 a3 a4 a5 a6 a7 a8:=⟨a0,a1,a2,a3,a4,a5,a6,a7,a8,h⟩
theorem mk10 {A0:Sort _} {A1:Sort _} {A2:Sort _} {A3:Sort _} {A4:Sort _} {A5:Sort _} {A6:Sort _} {A7:Sort _} {A8:Sort _} {A9:Sort _} {p:A0→A1→A2→A3→A4→A5→A6→A7→A8→A9→Prop} (a0:A0) (a1:A1) (a2:A2) (a3:A3) (a4:A4) (a5:A5) (a6:A6) (a7:A7) (a8:A8) (a9:A9) (h:p a0 a1 a2 a3 a4 a5 a6 a7 a8 a9):∃ a0 a1 a2 a3 a4 a5 a6 a7 a8 a9,p a0 a1 a2 a3 a4 a5 a6 a7 a8 a9:=⟨a0,a1,a2,a3,a4,a5,a6,a7,a8,a9,h⟩
theorem mk11 {A0:Sort _} {A1:Sort _} {A2:Sort _} {A3:Sort _} {A4:Sort _} {A5:Sort _} {A6:Sort _} {A7:Sort _} {A8:Sort _} {A9:Sort _} {A10:Sort _} {p:A0→A1→A2→A3→A4→A5→A6→A7→A8→A9→A10→Prop} (a0:A0) (a1:A1) (a2:A2) (a3:A3) (a4:A4) (a5:A5) (a6:A6) (a7:A7) (a8:A8) (a9:A9) (a10:A10) (h:p a0 a1 a2 a3 a4 a5 a6 a7 a8 a9 a10):∃ a0 a1 a2 a3 a4 a5 a6 a7 a8 a9 a10,p a0 a1 a2 a3 a4 a5 a6 a7 a8 a9 a10:=⟨a0,a1,a2,a3,a4,a5,a6,a7,a8,a9,a10,h⟩
theorem mk12 {A0:Sort _} {A1:Sort _} {A2:Sort _} {A3:Sort _} {A4:Sort _} {A5:Sort _} {A6:Sort _} {A7:Sort _} {A8:Sort _} {A9:Sort _} {A10:Sort _} {A11:Sort _} {p:A0→A1→A2→A3→A4→A5→A6→A7→A8→A9→A10→A11→Prop} (a0:A0) (a1:A1) (a2:A2) (a3:A3) (a4:A4) (a5:A5) (a6:A6) (a7:A7) (a8:A8) (a9:A9) (a10:A10) (a11:A11) (h:p a0 a1 a2 a3 a4 a5 a6 a7 a8 a9 a10 a11):∃ a0 a1 a2 a3 a4 a5 a6 a7 a8 a9 a10 a11,p a0 a1 a2 a3 a4 a5 a6 a7 a8 a9 a10 a11:=⟨a0,a1,a2,a3,a4,a5,a6,a7,a8,a9,a10,a11,h⟩
theorem mk14 {A0:Sort _} {A1:Sort _} {A2:Sort _} {A3:Sort _} {A4:Sort _} {A5:Sort _} {A6:Sort _} {A7:Sort _} {A8:Sort _} {A9:Sort _} {A10:Sort _} {A11:Sort _} {A12:Sort _} {A13:Sort _} {p:A0→A1→A2→A3→A4→A5→A6→A7→A8→A9→A10→A11→A12→A13→Prop} (a0:A0) (a1:A1) (a2:A2) (a3:A3) (a4:A4) (a5:A5) (a6:A6) (a7:A7) (a8:A8) (a9:A9) (a10:A10) (a11:A11) (a12:A12) (a13:A13) (h:p a0 a1 a2 a3 a4 a5 a6 a7 a8 a9 a10 a11 a12 a13):∃ a0 a1 a2 a3 a4 a5 a6 a7 a8 a9 a10 a11 a12 a13,p a0 a1 a2 a3 a4 a5 a6 a7 a8 a9 a10 a11 a12 a13:=⟨a0,a1,a2,a3,a4,a5,a6,a7,a8,a9,a10,a11,a12,a13,h⟩
end
end
section
open PySem.Calls
noncomputable abbrev Led:=List (Addr × Obj)
inductive T where
  | cint (i:Fin 8)
  | cun
  | loc (n:Int)
  | glob (n:Int)
  | setl (n:Int) (v:T)
  | lam (l:Int) (ps:List Int) (b:T)
  | call (f:T) (xs:List T)
  | seq (xs:List T)
  | fix (ns:List Int) (ls:List T) (b:T)
noncomputable def T.kind:T→Int
  | .cint _=>0 | .cun=>0 | .loc _=>1 | .glob _=>2 | .setl _ _=>3 | .lam _ _ _=>7 | .call _ _=>8 | .seq _=>9 | .fix _ _ _=>11
noncomputable def T.kids:T→List T
  | .cint _=>[] | .cun=>[] | .loc _=>[] | .glob _=>[] | .setl _ v=>[v] | .lam _ _ b=>[b] | .call f xs=>f::xs | .seq xs=>xs | .fix _ ls b=>ls ++ [b]
noncomputable def dints (ns:List Int):List Dat:=ns.map .int
noncomputable def T.own:T→List Dat
  | .cint i=>[.str (Str.ofString (toString (i.val:Int)))] | .cun=>[.str (Str.ofString "late")] | .loc n=>[.int n] | .glob n=>[.int n] | .setl n _=>[.int n]
  | .lam l ps _=>[.int l,.tuple (dints ps),.int (-1)] | .call _ _=>[] | .seq _=>[] | .fix ns _ _=>[.tuple (dints ns)]
noncomputable def T.nums:T→Nat
  | .lam _ ps _=>ps.length
  | .fix ns _ _=>ns.length
  | _=>0
mutual
noncomputable def T.size:T→Nat
  | .cint _=>1 | .cun=>1 | .loc _=>1 | .glob _=>1
  | .setl _ v=>v.size + 1 | .lam _ ps b=>b.size + ps.length + 1 | .call f xs=>f.size + sizes xs + 1 | .seq xs=>sizes xs + 1 | .fix ns ls b=>sizes ls + b.size + ns.length + 1
noncomputable def sizes:List T→Nat
  | []=>0
  | t::r=>t.size + sizes r
end
mutual
noncomputable def T.dep:T→Nat
  | .cint _=>1 | .cun=>1 | .loc _=>1 | .glob _=>1
  | .setl _ v=>v.dep + 1 | .lam _ _ b=>b.dep + 1 | .call f xs=>max f.dep (deps xs) + 1 | .seq xs=>deps xs + 1 | .fix _ ls b=>max (deps ls) b.dep + 1
noncomputable def deps:List T→Nat
  | []=>0
  | t::r=>max t.dep (deps r)
end
mutual
noncomputable def T.tell:T→Dat
  | .cint i=>.tuple [.int 0,.tuple [.str (Str.ofString (toString (i.val:Int)))],.tuple []]
  | .cun=>.tuple [.int 0,.tuple [.str (Str.ofString "late")],.tuple []]
  | .loc n=>.tuple [.int 1,.tuple [.int n],.tuple []]
  | .glob n=>.tuple [.int 2,.tuple [.int n],.tuple []]
  | .setl n v=>.tuple [.int 3,.tuple [.int n],.tuple [v.tell]]
  | .lam l ps b=>.tuple [.int 7,.tuple [.int l,.tuple (dints ps),.int (-1)],.tuple [b.tell]]
  | .call f xs=>.tuple [.int 8,.tuple [],.tuple (f.tell::tells xs)]
  | .seq xs=>.tuple [.int 9,.tuple [],.tuple (tells xs)]
  | .fix ns ls b=>.tuple [.int 11,.tuple [.tuple (dints ns)],.tuple (tells ls ++ [b.tell])]
noncomputable def tells:List T→List Dat
  | []=>[]
  | t::r=>t.tell::tells r
end
theorem tells_append:∀ a b:List T,tells (a ++ b) = tells a ++ tells b
  | [],_=>rfl
  | t::r,b=>by simp only [List.cons_append,tells,tells_append r b]
theorem tells_map:∀ a:List T,tells a = a.map T.tell
  | []=>rfl
  | t::r=>by simp only [tells,List.map_cons,tells_map r]
theorem tell_eq (t:T):t.tell = .tuple [.int t.kind,.tuple t.own,.tuple (tells t.kids)]:=by
  cases t <;> simp only [T.tell,T.kind,T.own,T.kids,tells,tells_append]
theorem sizes_append:∀ a b:List T,sizes (a ++ b) = sizes a + sizes b
  | [],_=>by simp [sizes]
  | t::r,b=>by simp only [List.cons_append,sizes,sizes_append r b];lia
theorem size_eq (t:T):t.size = sizes t.kids + t.nums + 1:=by
  cases t <;> simp only [T.size,T.kids,T.nums,sizes,sizes_append] <;> lia
theorem size_pos (t:T):0 < t.size:=by rw [size_eq];lia
theorem size_mem:∀ {l:List T} {t:T},t∈l→t.size≤sizes l
  | _::r,_,.head _=>by simp only [sizes];lia
  | _::r,_,.tail _ m=>by have:=size_mem m;simp only [sizes];lia
theorem size_kid {t k:T} (h:k∈t.kids):k.size < t.size:=by have:=size_mem h;rw [size_eq t];lia
theorem len_sizes:∀ l:List T,l.length≤sizes l
  | []=>Nat.le_refl _
  | t::r=>by have:=len_sizes r;have:=size_pos t;simp only [sizes,List.length_cons];lia
theorem deps_append:∀ a b:List T,deps (a ++ b) = max (deps a) (deps b)
  | [],_=>by simp [deps]
  | t::r,b=>by
    show max t.dep (deps (r ++ b)) = max (max t.dep (deps r)) (deps b)
    rw [deps_append r b,Nat.max_assoc]
theorem dep_eq (t:T):t.dep = deps t.kids + 1:=by
  cases t with
  | setl n v=>show v.dep + 1 = max v.dep 0 + 1;rw [Nat.max_zero]
  | lam l ps b=>show b.dep + 1 = max b.dep 0 + 1;rw [Nat.max_zero]
  | fix ns ls b=>show max (deps ls) b.dep + 1 = deps (ls ++ [b]) + 1;rw [deps_append];show _ = max (deps ls) (max b.dep 0) + 1;rw [Nat.max_zero]
  | _=>rfl
theorem dep_mem:∀ {l:List T} {t:T},t∈l→t.dep≤deps l
  | _::r,_,.head _=>Nat.le_max_left _ _
  | _::r,_,.tail _ m=>Nat.le_trans (dep_mem m) (Nat.le_max_right _ _)
theorem dep_kid {t k:T} (h:k∈t.kids):k.dep < t.dep:=by have:=dep_mem h;rw [dep_eq t];lia
noncomputable abbrev ent (w:World) (x:String) (t:Tok) (v:Value):DictEntry:=⟨PyData.keyHash w.params (Str.ofString x),.str (Str.ofString x) t,v⟩
mutual
inductive Nd (w:World) (P:Led):Addr→T→Prop
  | cint {x d:Addr} {i:Fin 8} {t k:Tok}:(x,instObj 66 d)∈P→(d,dictOf [ent w "value" t (.int (i.val:Int) k)] 1)∈P→Nd w P x (.cint i)
  | cun {x d:Addr} {t:Tok}:(x,instObj 66 d)∈P→(d,dictOf [ent w "value" t (.ref 427)] 1)∈P→Nd w P x .cun
  | loc {x d:Addr} {n:Int} {t k:Tok}:(x,instObj 85 d)∈P→(d,dictOf [ent w "number" t (.int n k)] 1)∈P→Nd w P x (.loc n)
  | glob {x d:Addr} {n:Int} {t k:Tok}:(x,instObj 104 d)∈P→(d,dictOf [ent w "symbol" t (.int n k)] 1)∈P→Nd w P x (.glob n)
  | setl {x d v:Addr} {n:Int} {t k t2:Tok} {tv:T}:(x,instObj 137 d)∈P→(d,dictOf [ent w "number" t (.int n k),ent w "value" t2 (.ref v)] 2)∈P→Nd w P v tv→Nd w P x (.setl n tv)
  | lam {x d b pl:Addr} {l:Int} {t1 t2 t3 t4 k1 k3:Tok} {vs:List Value} {e:Nat} {ps:List Int} {tb:T}:(x,instObj 184 d)∈P →
      (d,dictOf [ent w "label" t1 (.int l k1),ent w "params" t2 (.ref pl),ent w "rest" t3 (.int (-1) k3),ent w "body" t4 (.ref b)] 4)∈P→(pl,listOf vs.toArray e)∈P→IntsAre vs ps→Nd w P b tb→Nd w P x (.lam l ps tb)
  | call {x d f ol:Addr} {t1 t2:Tok} {vs:List Value} {e:Nat} {tf:T} {ts:List T}:(x,instObj 217 d)∈P→(d,dictOf [ent w "operator" t1 (.ref f),ent w "operands" t2 (.ref ol)] 2)∈P →
      (ol,listOf vs.toArray e)∈P→Nd w P f tf→Nds w P vs ts→Nd w P x (.call tf ts)
  | seq {x d ol:Addr} {t1:Tok} {vs:List Value} {e:Nat} {ts:List T}:(x,instObj 250 d)∈P→(d,dictOf [ent w "items" t1 (.ref ol)] 1)∈P→(ol,listOf vs.toArray e)∈P→Nds w P vs ts→Nd w P x (.seq ts)
  | fix {x d nl ll b:Addr} {t1 t2 t3:Tok} {vs us:List Value} {e e2:Nat} {ns:List Int} {ts:List T} {tb:T}:(x,instObj 283 d)∈P →
      (d,dictOf [ent w "numbers" t1 (.ref nl),ent w "lambdas" t2 (.ref ll),ent w "body" t3 (.ref b)] 3)∈P→(nl,listOf us.toArray e2)∈P→IntsAre us ns→(ll,listOf vs.toArray e)∈P→Nds w P vs ts→Nd w P b tb→Nd w P x (.fix ns ts tb)
inductive Nds (w:World) (P:Led):List Value→List T→Prop
  | nil:Nds w P [] []
  | cons {a:Addr} {t:T} {vs:List Value} {ts:List T}:Nd w P a t→Nds w P vs ts→Nds w P (.ref a::vs) (t::ts)
end
theorem Nd.mono {w:World} {P P':Led} (hs:∀ p∈P,p∈P') {a:Addr} {t:T} (h:Nd w P a t):Nd w P' a t:=by
  refine Nd.rec (motive_1:=fun a t _=>Nd w P' a t) (motive_2:=fun vs ts _=>Nds w P' vs ts) ?_ ?_ ?_ ?_ ?_ ?_ ?_ ?_ ?_ ?_ ?_ h
  · intros;rename_i h1 h2;exact .cint (hs _ h1) (hs _ h2)
  · intros;rename_i h1 h2;exact .cun (hs _ h1) (hs _ h2)
  · intros;rename_i h1 h2;exact .loc (hs _ h1) (hs _ h2)
  · intros;rename_i h1 h2;exact .glob (hs _ h1) (hs _ h2)
  · intros;rename_i h1 h2 _ h3;exact .setl (hs _ h1) (hs _ h2) h3
  · intros;rename_i h1 h2 h3 h4 _ h5;exact .lam (hs _ h1) (hs _ h2) (hs _ h3) h4 h5
  · intros;rename_i h1 h2 h3 _ _ h4 h5;exact .call (hs _ h1) (hs _ h2) (hs _ h3) h4 h5
  · intros;rename_i h1 h2 h3 _ h4;exact .seq (hs _ h1) (hs _ h2) (hs _ h3) h4
  · intros;rename_i h1 h2 h3 h4 h5 _ _ h6 h7;exact .fix (hs _ h1) (hs _ h2) (hs _ h3) h4 (hs _ h5) h6 h7
  · exact .nil
  · intros;rename_i h1 h2;exact .cons h1 h2
theorem Nds.ind {w:World} {P:Led} {M:List Value→List T→Prop} (n:M [] []) (c:∀ a t vs ts,Nd w P a t→Nds w P vs ts→M vs ts→M (.ref a::vs) (t::ts)) {vs:List Value} {ts:List T} (h:Nds w P vs ts):M vs ts:=by
  refine Nds.rec (motive_1:=fun _ _ _=>True) (motive_2:=fun vs ts _=>M vs ts) ?_ ?_ ?_ ?_ ?_ ?_ ?_ ?_ ?_ n ?_ h
  · intros;trivial
  · intros;trivial
  · intros;trivial
  · intros;trivial
  · intros;trivial
  · intros;trivial
  · intros;trivial
  · intros;trivial
  · intros;trivial
  · intros;rename_i h1 h2 _ ih;exact c _ _ _ _ h1 h2 ih
theorem Nds.mono {w:World} {P P':Led} (hs:∀ p∈P,p∈P') {vs:List Value} {ts:List T} (h:Nds w P vs ts):Nds w P' vs ts:=Nds.ind (M:=fun vs ts=>Nds w P' vs ts) .nil (fun _ _ _ _ h _ ih=>.cons (h.mono hs) ih) h
theorem Nds.length {w:World} {P:Led}:∀ {vs:List Value} {ts:List T},Nds w P vs ts→vs.length = ts.length:=fun h=>Nds.ind (M:=fun vs ts=>vs.length = ts.length) rfl (fun _ _ _ _ _ _ ih=>by rw [List.length_cons,List.length_cons,ih]) h
theorem Nds.append {w:World} {P:Led}:∀ {vs us:List Value} {ts ss:List T},Nds w P vs ts→Nds w P us ss→Nds w P (vs ++ us) (ts ++ ss):=fun {_ us _ ss} h k=>Nds.ind (M:=fun vs ts=>Nds w P (vs ++ us) (ts ++ ss)) k (fun _ _ _ _ h _ ih=>.cons h ih) h
theorem Nds.get {w:World} {P:Led}:∀ {vs:List Value} {ts:List T} {i:Nat} {t:T},Nds w P vs ts→ts[i]? = some t→∃ a,vs[i]? = some (.ref a)∧Nd w P a t:=fun {_ _ i t} h=>Nds.ind (M:=fun vs ts=>∀ i t,ts[i]? = some t→∃ a,vs[i]? = some (.ref a)∧Nd w P a t) (fun _ _ e=>by simp at e) (fun _ _ _ _ h _ ih i t e=>by
  cases i with
  | zero=>cases e;exact ⟨_,rfl,h⟩
  | succ i=>exact ih i t e) h i t
theorem Nds.get' {w:World} {P:Led}:∀ {vs:List Value} {ts:List T} {i:Nat} {v:Value},Nds w P vs ts→vs[i]? = some v→∃ a t,v = .ref a∧ts[i]? = some t∧Nd w P a t:=fun {_ _ i v} h=>Nds.ind (M:=fun vs ts=>∀ i v,vs[i]? = some v→∃ a t,v = .ref a∧ts[i]? = some t∧Nd w P a t) (fun _ _ e=>by simp at e) (fun _ _ _ _ h _ ih i t e=>by
  cases i with
  | zero=>cases e;exact ⟨_,_,rfl,rfl,h⟩
  | succ i=>exact ih i t e) h i v
end
section
open PySem.Calls
structure Cx where
  pp:Program
  loose:List Str
  mean:ExcName→Option Value
  mg:Str→Option Value
  mb:Str→Option Value
  A₀:Around
  base:Heap
  outer:List Env
  g:Heap
  L:Addr
  A:Around
  s0:Shared
noncomputable def Apart (own P:Led):Prop:=∀ q∈own,∀ p∈P,p.1≠q.1
structure St (w:World) (c:Cx) (m:Str→Option Value) (own P:Led) (s:Shared):Prop where
  F:Fr c.g c.L s.heap m
  N:News c.g c.L s.heap (own ++ P)
  ap:Apart own P
  nd:(own.map (·.1)).Nodup
  X:(hd.heap_39 w.params).In c.g
  T:Top c.pp c.loose c.mean c.mg c.mb c.g
  B:Below c.A₀ c.base c.outer c.g
  hh:c.A.handled = none
  fr:∃ e,c.A.frames = some (e::c.outer)∧e.frame = some c.L∧e.scope.kind = .function
  eg:s.gens = c.s0.gens
  ed:s.drawn = c.s0.drawn
  eo:s.os = c.s0.os
section
variable {w:World} {c:Cx} {m m':Str→Option Value} {own own' P P':Led} {s:Shared}
theorem St.kin (S:St w c m own P s):(hd.heap_39 w.params).In s.heap:=S.X.keeps S.F.keep
theorem St.tr (S:St w c m own P s):TopRead c.pp c.loose c.mg c.mb c.g:=topRead_of S.T
theorem St.same (S:St w c m own P s) {h':Heap} {tk:Nat} (F:Fr c.g c.L h' m') (N:News c.g c.L h' (own' ++ P')) (ap:Apart own' P') (nd:(own'.map (·.1)).Nodup):St w c m' own' P' { s with heap:=h',toks:=tk } :=
  ⟨F,N,ap,nd,S.X,S.T,S.B,S.hh,S.fr,S.eg,S.ed,S.eo⟩
theorem St.tok (S:St w c m own P s) (tk:Nat):St w c m own P { s with toks:=tk }:=⟨S.F,S.N,S.ap,S.nd,S.X,S.T,S.B,S.hh,S.fr,S.eg,S.ed,S.eo⟩
theorem St.sub (S:St w c m own P s) (hs:∀ p∈P',p∈P):St w c m own P' s :=
  ⟨S.F,fun p hp=>S.N p ((List.mem_append.mp hp).elim (fun h=>List.mem_append_left _ h) fun h=>List.mem_append_right _ (hs p h)),fun q hq p hp=>S.ap q hq p (hs p hp),S.nd,S.X,S.T,S.B,S.hh,S.fr,S.eg,S.ed,S.eo⟩
theorem St.inP (S:St w c m own P s) {p:Addr × Obj} (h:p∈P):s.heap.get? p.1 = some p.2:=(S.N p (List.mem_append_right _ h)).1
theorem St.inO (S:St w c m own P s) {p:Addr × Obj} (h:p∈own):s.heap.get? p.1 = some p.2:=(S.N p (List.mem_append_left _ h)).1
/-- an own cell becomes a fact -/
theorem St.settle {x:Addr × Obj} (S:St w c m (x::own) P s):St w c m own (x::P) s :=
  ⟨S.F,fun p hp=>S.N p (by
    rcases List.mem_append.mp hp with h | h
    · exact .tail _ (List.mem_append_left _ h)
    · rcases List.mem_cons.mp h with rfl | h
      · exact .head _
      · exact .tail _ (List.mem_append_right _ h)),fun q hq p hp=>by
    rcases List.mem_cons.mp hp with rfl | hp
    · have:=(List.nodup_cons.mp S.nd).1
      exact fun e=>this (List.mem_map.mpr ⟨q,hq,e.symm⟩)
    · exact S.ap q (.tail _ hq) p hp,(List.nodup_cons.mp S.nd).2,S.X,S.T,S.B,S.hh,S.fr,S.eg,S.ed,S.eo⟩
theorem St.swap {x y:Addr × Obj} (S:St w c m (x::y::own) P s):St w c m (y::x::own) P s :=
  ⟨S.F,fun p hp=>S.N p (by
    rcases List.mem_cons.mp hp with rfl | h
    · exact .tail _ (.head _)
    · rcases List.mem_cons.mp h with rfl | h
      · exact .head _
      · exact .tail _ (.tail _ h)),fun q hq p hp=>by
    rcases List.mem_cons.mp hq with rfl | hq
    · exact S.ap _ (.tail _ (.head _)) p hp
    · rcases List.mem_cons.mp hq with rfl | hq
      · exact S.ap _ (.head _) p hp
      · exact S.ap _ (.tail _ (.tail _ hq)) p hp,by
    have h:=S.nd
    simp only [List.map_cons,List.nodup_cons,List.mem_cons,not_or] at h ⊢
    exact ⟨⟨fun e=>h.1.1 e.symm,h.2.1⟩,h.1.2,h.2.2⟩,S.X,S.T,S.B,S.hh,S.fr,S.eg,S.ed,S.eo⟩
theorem St.drop {x:Addr × Obj} (S:St w c m (x::own) P s):St w c m own P s:=S.settle.sub fun _ h=>.tail _ h
end
noncomputable def asg:List (Str × NameKind)→List (Option Value)→Str→Option Value
  | n::ns,o::vs,y=>if y = n.1 then o else asg ns vs y
  | _,_,_=>none
noncomputable def goodNs:List (Str × NameKind)→Bool
  | []=>true
  | n::r=>!(r.any (·.1 == n.1)) && n.1 != ("__debug__":Str) && goodNs r
theorem goodNs_ne {n:Str × NameKind} {r:List (Str × NameKind)} (h:goodNs (n::r) = true):(∀ p∈r,p.1≠n.1)∧(n.1 == ("__debug__":Str)) = false∧goodNs r = true:=by
  simp only [goodNs,Bool.and_eq_true,Bool.not_eq_true',List.any_eq_false,beq_iff_eq,bne] at h
  exact ⟨fun p hp=>h.1.1 p hp,h.1.2,h.2⟩
theorem goodNs_mem:∀ {ns:List (Str × NameKind)} {x:Str} {k:NameKind},goodNs ns = true→(x,k)∈ns→ns.lookup x = some k∧(x == ("__debug__":Str)) = false
  | n::r,x,k,h,hm=>by
    have g:=goodNs_ne h
    rcases List.mem_cons.mp hm with e | hm
    · subst e
      exact ⟨by simp [List.lookup],g.2.1⟩
    · have ih:=goodNs_mem g.2.2 hm
      refine ⟨?_,ih.2⟩
      have:(x == n.1) = false:=beq_eq_false_iff_ne.mpr (g.1 _ hm)
      rw [List.lookup_cons,this]
      exact ih.1
noncomputable def LocV (ns:List (Str × NameKind)) (vs:List (Option Value)) (x:Str) (v:Value):Prop:=(x,NameKind.local)∈ns∧(goodNs ns = true→asg ns vs x = some v)
noncomputable def SetL (ns:List (Str × NameKind)) (vs:List (Option Value)) (x:Str) (v:Value) (vs':List (Option Value)):Prop:=(x,NameKind.local)∈ns∧(goodNs ns = true→(fun y=>if y = x then some v else asg ns vs y) = asg ns vs')
section
variable {x:Str} {v:Value} {n:Str × NameKind} {o:Option Value} {ns:List (Str × NameKind)} {vs vs':List (Option Value)}
theorem LocV.mem (h:LocV ns vs x v):(x,NameKind.local)∈ns:=h.1
theorem LocV.asg (g:goodNs ns = true) (h:LocV ns vs x v):asg ns vs x = some v:=h.2 g
theorem SetL.mem (h:SetL ns vs x v vs'):(x,NameKind.local)∈ns:=h.1
theorem SetL.asg (g:goodNs ns = true) (h:SetL ns vs x v vs'):(fun y=>if y = x then some v else asg ns vs y) = asg ns vs':=h.2 g
theorem LocV.here:LocV ((x,.local)::ns) (some v::vs) x v:=⟨.head _,fun _=>if_pos rfl⟩
theorem LocV.there (h:LocV ns vs x v):LocV (n::ns) (o::vs) x v:=⟨.tail _ h.1,fun g=>(if_neg ((goodNs_ne g).1 _ h.1)).trans (h.2 (goodNs_ne g).2.2)⟩
theorem SetL.here:SetL ((x,.local)::ns) (o::vs) x v (some v::vs):=⟨.head _,fun _=>funext fun y=>by
    show (if y = x then some v else if y = x then o else Mine.asg ns vs y) = if y = x then some v else Mine.asg ns vs y
    split <;> rfl⟩
theorem asg_no:Mine.asg ns [] = fun _=>none:=by cases ns <;> rfl
theorem SetL.hereN:SetL ((x,.local)::ns) [] x v [some v]:=⟨.head _,fun _=>funext fun y=>by
    rw [asg_no]
    show (if y = x then some v else none) = if y = x then some v else Mine.asg ns [] y
    rw [asg_no]⟩
theorem SetL.there (h:SetL ns vs x v vs'):SetL (n::ns) (o::vs) x v (o::vs'):=⟨.tail _ h.1,fun g=>funext fun y=>by
    have hx:=(goodNs_ne g).1 _ h.1
    have e:=congrFun (h.2 (goodNs_ne g).2.2) y
    show (if y = x then some v else if y = n.1 then o else Mine.asg ns vs y) = if y = n.1 then o else Mine.asg ns vs' y
    rw [← e]
    by_cases h1:y = x
    · rw [if_pos h1,if_pos h1,if_neg (by rw [h1];exact hx)]
    · rw [if_neg h1,if_neg h1]⟩
theorem SetL.thereN (h:SetL ns [] x v vs'):SetL (n::ns) [] x v (none::vs'):=⟨.tail _ h.1,fun g=>funext fun y=>by
    have hx:=(goodNs_ne g).1 _ h.1
    have e:=congrFun (h.2 (goodNs_ne g).2.2) y
    rw [asg_no] at e
    rw [asg_no]
    show (if y = x then some v else none) = if y = n.1 then none else Mine.asg ns vs' y
    rw [← e]
    by_cases h1:y = x
    · rw [if_pos h1,if_neg (by rw [h1];exact hx)]
    · rw [if_neg h1];split <;> rfl⟩
end
noncomputable def prefixNs:List (Str × NameKind)→List Str→Bool
  | _,[]=>true
  | n::ns,p::ps=>n.1 == p && n.2 == .local && prefixNs ns ps
  | [],_::_=>false
noncomputable def goodFn (ns:List (Str × NameKind)) (ps:List Str):Bool:=goodNs ns && prefixNs ns ps && ns.all (fun n=>n.2 != .cell)
theorem lookup_zip_none {ps:List Str} {vs:List Value} {y:Str} (h:y ∉ ps):(ps.zip vs).lookup y = none:=by
  induction ps generalizing vs with
  | nil=>rfl
  | cons p ps ih =>
    cases vs with
    | nil=>rfl
    | cons v vs =>
      rw [List.zip_cons_cons,List.lookup_cons]
      have:(y == p) = false:=beq_eq_false_iff_ne.mpr fun e=>h (e ▸ .head _)
      rw [this]
      exact ih fun hm=>h (.tail _ hm)
theorem lookup_append_none {l r:List (Str × Value)} {y:Str} (h:r.lookup y = none):(r ++ l).lookup y = l.lookup y:=by
  induction r with
  | nil=>rfl
  | cons p r ih =>
    rw [List.lookup_cons] at h
    rw [List.cons_append,List.lookup_cons]
    cases hy:y == p.1 with
    | true=>rw [hy] at h;cases h
    | false=>rw [hy] at h;exact ih h
theorem lookup_append_some {l r:List (Str × Value)} {y:Str} {v:Value} (h:r.lookup y = some v):(r ++ l).lookup y = some v:=by
  induction r with
  | nil=>cases h
  | cons p r ih =>
    rw [List.lookup_cons] at h
    rw [List.cons_append,List.lookup_cons]
    cases hy:y == p.1 with
    | true=>rw [hy] at h;exact h
    | false=>rw [hy] at h;exact ih h
theorem prefix_mem:∀ {ns:List (Str × NameKind)} {ps:List Str},prefixNs ns ps = true→∀ p∈ps,(p,NameKind.local)∈ns
  | n::ns,q::ps,h,p,hp=>by
    simp only [prefixNs,Bool.and_eq_true,beq_iff_eq] at h
    rcases List.mem_cons.mp hp with rfl | hp
    · rw [← h.1.1,← h.1.2];exact .head _
    · exact .tail _ (prefix_mem h.2 p hp)
  | [],q::ps,h,_,_=>by simp [prefixNs] at h
theorem asg_nil (ns:List (Str × NameKind)) (y:Str):asg ns [] y = none:=by cases ns <;> rfl
theorem asg_args:∀ {ns:List (Str × NameKind)} {ps:List Str} {vs:List Value} (y:Str),goodNs ns = true→prefixNs ns ps = true→ps.length = vs.length→(ps.zip vs).reverse.lookup y = asg ns (vs.map some) y
  | ns,[],[],y,_,_,_=>(asg_nil ns y).symm
  | [],_::_,_,_,_,h,_=>by simp [prefixNs] at h
  | n::ns,p::ps,v::vs,y,g,h,hl=>by
    simp only [prefixNs,Bool.and_eq_true,beq_iff_eq] at h
    have g':=goodNs_ne g
    obtain ⟨x,k⟩:=n
    refine an2 h ?_;clear h;intro hx1 hp
    refine an2 hx1 ?_;clear hx1;intro hx2 hk
    subst hx2
    have ih:=asg_args (ns:=ns) (ps:=ps) (vs:=vs) y g'.2.2 hp (by simpa using hl)
    rw [List.zip_cons_cons,List.reverse_cons,List.map_cons,asg]
    by_cases hy:y = x
    · subst hy
      have hn:y ∉ ps:=fun hm=>g'.1 _ (prefix_mem hp y hm) rfl
      have h0:asg ns (vs.map some) y = none:=by
        rw [← ih]
        have:=lookup_zip_none (vs:=vs) hn
        cases hq:(ps.zip vs).reverse.lookup y with
        | none=>rfl
        | some u =>
          exfalso
          have hmem:∀ {l:List (Str × Value)} {u:Value},l.lookup y = some u→(y,u)∈l:=by
            intro l u
            induction l with
            | nil=>intro h;cases h
            | cons q l il =>
              intro h
              rw [List.lookup_cons] at h
              cases hyq:y == q.1 with
              | true=>rw [hyq] at h;cases h;rw [eq_of_beq hyq];exact .head _
              | false=>rw [hyq] at h;exact .tail _ (il h)
          have:=hmem hq
          rw [List.mem_reverse] at this
          exact hn (List.of_mem_zip this).1
      rw [h0] at ih
      rw [if_pos rfl,lookup_append_none ih]
      simp [List.lookup]
    · rw [if_neg hy]
      cases hq:(ps.zip vs).reverse.lookup y with
      | none =>
        rw [lookup_append_none hq]
        rw [hq] at ih
        rw [← ih]
        have:(y == x) = false:=beq_eq_false_iff_ne.mpr hy
        simp [List.lookup,this]
      | some u =>
        rw [hq] at ih
        rw [← ih]
        exact lookup_append_some hq
noncomputable def LocQ (ns:List (Str × NameKind)) (vs:List (Option Value)) (x:Str) (K:Value→Prop):Prop:=∃ v,LocV ns vs x v∧K v
theorem LocQ.here {x:Str} {v:Value} {ns:List (Str × NameKind)} {vs:List (Option Value)} {K:Value→Prop} (h:K v):LocQ ((x,.local)::ns) (some v::vs) x K:=⟨v,.here,h⟩
theorem LocQ.there {x:Str} {n:Str × NameKind} {o:Option Value} {ns:List (Str × NameKind)} {vs:List (Option Value)} {K:Value→Prop} (h:LocQ ns vs x K):LocQ (n::ns) (o::vs) x K:=let ⟨v,a,b⟩:=h;⟨v,.there a,b⟩
noncomputable def SetQ (ns:List (Str × NameKind)) (vs:List (Option Value)) (x:Str) (v:Value) (K:List (Option Value)→Prop):Prop:=∃ vs',SetL ns vs x v vs'∧K vs'
theorem SetQ.here {x:Str} {v:Value} {o:Option Value} {ns:List (Str × NameKind)} {vs:List (Option Value)} {K:List (Option Value)→Prop} (h:K (some v::vs)):SetQ ((x,.local)::ns) (o::vs) x v K:=⟨_,.here,h⟩
theorem SetQ.hereN {x:Str} {v:Value} {ns:List (Str × NameKind)} {K:List (Option Value)→Prop} (h:K [some v]):SetQ ((x,.local)::ns) [] x v K:=⟨_,.hereN,h⟩
theorem SetQ.there {x:Str} {v:Value} {n:Str × NameKind} {o:Option Value} {ns:List (Str × NameKind)} {vs:List (Option Value)} {K:List (Option Value)→Prop} (h:SetQ ns vs x v (fun vs'=>K (o::vs'))):SetQ (n::ns) (o::vs) x v K:=let ⟨v,a,b⟩:=h;⟨_,.there a,b⟩
theorem SetQ.thereN {x:Str} {v:Value} {n:Str × NameKind} {ns:List (Str × NameKind)} {K:List (Option Value)→Prop} (h:SetQ ns [] x v (fun vs'=>K (none::vs'))):SetQ (n::ns) [] x v K:=let ⟨v,a,b⟩:=h;⟨_,.thereN a,b⟩
theorem LocV.a0 {x:Str} {v:Value} {ns:List (Str × NameKind)} {vs:List (Option Value)}:LocV ((x,.local)::ns) (some v::vs) x v:=.here
theorem LocV.a1 {x:Str} {v:Value} {n0:Str × NameKind} {ns:List (Str × NameKind)} {p0:Option Value} {vs:List (Option Value)}:LocV (n0::(x,.local)::ns) (p0::some v::vs) x v:=.there .a0
theorem LocV.a2 {x:Str} {v:Value} {n0 n1:Str × NameKind} {ns:List (Str × NameKind)} {p0 p1:Option Value} {vs:List (Option Value)}:LocV (n0::n1::(x,.local)::ns) (p0::p1::some v::vs) x v:=.there .a1
theorem LocV.a3 {x:Str} {v:Value} {n0 n1 n2:Str × NameKind} {ns:List (Str × NameKind)} {p0 p1 p2:Option Value} {vs:List (Option Value)}:LocV (n0::n1::n2::(x,.local)::ns) (p0::p1::p2::some v::vs) x v:=.there .a2
theorem LocV.a4 {x:Str} {v:Value} {n0 n1 n2 n3:Str × NameKind} {ns:List (Str × NameKind)} {p0 p1 p2 p3:Option Value} {vs:List (Option Value)}:LocV (n0::n1::n2::n3::(x,.local)::ns) (p0::p1::p2::p3::some v::vs) x v:=.there .a3
theorem LocV.a5 {x:Str} {v:Value} {n0 n1 n2 n3 n4:Str × NameKind} {ns:List (Str × NameKind)} {p0 p1 p2 p3 p4:Option Value} {vs:List (Option Value)}:LocV (n0::n1::n2::n3::n4::(x,.local)::ns) (p0::p1::p2::p3::p4::some v::vs) x v:=.there .a4
theorem LocV.a6 {x:Str} {v:Value} {n0 n1 n2 n3 n4 n5:Str × NameKind} {ns:List (Str × NameKind)} {p0 p1 p2 p3 p4 p5:Option Value} {vs:List (Option Value)}:LocV (n0::n1::n2::n3::n4::n5::(x,.local)::ns) (p0::p1::p2::p3::p4::p5::some v::vs) x v:=.there .a5
theorem LocV.a7 {x:Str} {v:Value} {n0 n1 n2 n3 n4 n5 n6:Str × NameKind} {ns:List (Str × NameKind)} {p0 p1 p2 p3 p4 p5 p6:Option Value} {vs:List (Option Value)}:LocV (n0::n1::n2::n3::n4::n5::n6::(x,.local)::ns) (p0::p1::p2::p3::p4::p5::p6::some v::vs) x v:=.there .a6
theorem LocV.a8 {x:Str} {v:Value} {n0 n1 n2 n3 n4 n5 n6 n7:Str × NameKind} {ns:List (Str × NameKind)} {p0 p1 p2 p3 p4 p5 p6 p7:Option Value} {vs:List (Option Value)}:LocV (n0::n1::n2::n3::n4::n5::n6::n7::(x,.local)::ns) (p0::p1::p2::p3::p4::p5::p6::p7::some v::vs) x v:=.there .a7
theorem LocV.a9 {x:Str} {v:Value} {n0 n1 n2 n3 n4 n5 n6 n7 n8:Str × NameKind} {ns:List (Str × NameKind)} {p0 p1 p2 p3 p4 p5 p6 p7 p8:Option Value} {vs:List (Option Value)}:LocV (n0::n1::n2::n3::n4::n5::n6::n7::n8::(x,.local)::ns) (p0::p1::p2::p3::p4::p5::p6::p7::p8::some v::vs) x v:=.there .a8
theorem LocV.a10 {x:Str} {v:Value} {n0 n1 n2 n3 n4 n5 n6 n7 n8 n9:Str × NameKind} {ns:List (Str × NameKind)} {p0 p1 p2 p3 p4 p5 p6 p7 p8 p9:Option Value} {vs:List (Option Value)}:LocV (n0::n1::n2::n3::n4::n5::n6::n7::n8::n9::(x,.local)::ns) (p0::p1::p2::p3::p4::p5::p6::p7::p8::p9::some v::vs) x v:=.there .a9
theorem LocV.a11 {x:Str} {v:Value} {n0 n1 n2 n3 n4 n5 n6 n7 n8 n9 n10:Str × NameKind} {ns:List (Str × NameKind)} {p0 p1 p2 p3 p4 p5 p6 p7 p8 p9 p10:Option Value} {vs:List (Option Value)}:LocV (n0::n1::n2::n3::n4::n5::n6::n7::n8::n9::n10::(x,.local)::ns) (p0::p1::p2::p3::p4::p5::p6::p7::p8::p9::p10::some v::vs) x v:=.there .a10
theorem LocV.a12 {x:Str} {v:Value} {n0 n1 n2 n3 n4 n5 n6 n7 n8 n9 n10 n11:Str × NameKind} {ns:List (Str × NameKind)} {p0 p1 p2 p3 p4 p5 p6 p7 p8 p9 p10 p11:Option Value} {vs:List (Option Value)}:LocV (n0::n1::n2::n3::n4::n5::n6::n7::n8::n9::n10::n11::(x,.local)::ns) (p0::p1::p2::p3::p4::p5::p6::p7::p8::p9::p10::p11::some v::vs) x v:=.there .a11
theorem LocV.a13 {x:Str} {v:Value} {n0 n1 n2 n3 n4 n5 n6 n7 n8 n9 n10 n11 n12:Str × NameKind} {ns:List (Str × NameKind)} {p0 p1 p2 p3 p4 p5 p6 p7 p8 p9 p10 p11 p12:Option Value} {vs:List (Option Value)}:LocV (n0::n1::n2::n3::n4::n5::n6::n7::n8::n9::n10::n11::n12::(x,.local)::ns) (p0::p1::p2::p3::p4::p5::p6::p7::p8::p9::p10::p11::p12::some v::vs) x v:=.there .a12
theorem LocV.a14 {x:Str} {v:Value} {n0 n1 n2 n3 n4 n5 n6 n7 n8 n9 n10 n11 n12 n13:Str × NameKind} {ns:List (Str × NameKind)} {p0 p1 p2 p3 p4 p5 p6 p7 p8 p9 p10 p11 p12 p13:Option Value} {vs:List (Option Value)}:LocV (n0::n1::n2::n3::n4::n5::n6::n7::n8::n9::n10::n11::n12::n13::(x,.local)::ns) (p0::p1::p2::p3::p4::p5::p6::p7::p8::p9::p10::p11::p12::p13::some v::vs) x v:=.there .a13
theorem LocV.a15 {x:Str} {v:Value} {n0 n1 n2 n3 n4 n5 n6 n7 n8 n9 n10 n11 n12 n13 n14:Str × NameKind} {ns:List (Str × NameKind)} {p0 p1 p2 p3 p4 p5 p6 p7 p8 p9 p10 p11 p12 p13 p14:Option Value} {vs:List (Option Value)}:LocV (n0::n1::n2::n3::n4::n5::n6::n7::n8::n9::n10::n11::n12::n13::n14::(x,.local)::ns) (p0::p1::p2::p3::p4::p5::p6::p7::p8::p9::p10::p11::p12::p13::p14::some v::vs) x v:=.there .a14
theorem LocV.a16 {x:Str} {v:Value} {n0 n1 n2 n3 n4 n5 n6 n7 n8 n9 n10 n11 n12 n13 n14 n15:Str × NameKind} {ns:List (Str × NameKind)} {p0 p1 p2 p3 p4 p5 p6 p7 p8 p9 p10 p11 p12 p13 p14 p15:Option Value} {vs:List (Option Value)}:LocV (n0::n1::n2::n3::n4::n5::n6::n7::n8::n9::n10::n11::n12::n13::n14::n15::(x,.local)::ns) (p0::p1::p2::p3::p4::p5::p6::p7::p8::p9::p10::p11::p12::p13::p14::p15::some v::vs) x v:=.there .a15
theorem LocV.a17 {x:Str} {v:Value} {n0 n1 n2 n3 n4 n5 n6 n7 n8 n9 n10 n11 n12 n13 n14 n15 n16:Str × NameKind} {ns:List (Str × NameKind)} {p0 p1 p2 p3 p4 p5 p6 p7 p8 p9 p10 p11 p12 p13 p14 p15 p16:Option Value} {vs:List (Option Value)}:LocV (n0::n1::n2::n3::n4::n5::n6::n7::n8::n9::n10::n11::n12::n13::n14::n15::n16::(x,.local)::ns) (p0::p1::p2::p3::p4::p5::p6::p7::p8::p9::p10::p11::p12::p13::p14::p15::p16::some v::vs) x v:=.there .a16
theorem LocV.a18 {x:Str} {v:Value} {n0 n1 n2 n3 n4 n5 n6 n7 n8 n9 n10 n11 n12 n13 n14 n15 n16 n17:Str × NameKind} {ns:List (Str × NameKind)} {p0 p1 p2 p3 p4 p5 p6 p7 p8 p9 p10 p11 p12 p13 p14 p15 p16 p17:Option Value} {vs:List (Option Value)}:LocV (n0::n1::n2::n3::n4::n5::n6::n7::n8::n9::n10::n11::n12::n13::n14::n15::n16::n17::(x,.local)::ns) (p0::p1::p2::p3::p4::p5::p6::p7::p8::p9::p10::p11::p12::p13::p14::p15::p16::p17::some v::vs) x v:=.there .a17
theorem LocV.a19 {x:Str} {v:Value} {n0 n1 n2 n3 n4 n5 n6 n7 n8 n9 n10 n11 n12 n13 n14 n15 n16 n17 n18:Str × NameKind} {ns:List (Str × NameKind)} {p0 p1 p2 p3 p4 p5 p6 p7 p8 p9 p10 p11 p12 p13 p14 p15 p16 p17 p18:Option Value} {vs:List (Option Value)}:LocV (n0::n1::n2::n3::n4::n5::n6::n7::n8::n9::n10::n11::n12::n13::n14::n15::n16::n17::n18::(x,.local)::ns) (p0::p1::p2::p3::p4::p5::p6::p7::p8::p9::p10::p11::p12::p13::p14::p15::p16::p17::p18::some v::vs) x v:=.there .a18
theorem SetL.a0 {x:Str} {v:Value} {o:Option Value} {ns:List (Str × NameKind)} {vs:List (Option Value)}:SetL ((x,.local)::ns) (o::vs) x v (some v::vs):=.here
theorem SetL.a1 {x:Str} {v:Value} {o:Option Value} {n0:Str × NameKind} {ns:List (Str × NameKind)} {p0:Option Value} {vs:List (Option Value)}:SetL (n0::(x,.local)::ns) (p0::o::vs) x v (p0::some v::vs):=.there .a0
theorem SetL.a2 {x:Str} {v:Value} {o:Option Value} {n0 n1:Str × NameKind} {ns:List (Str × NameKind)} {p0 p1:Option Value} {vs:List (Option Value)}:SetL (n0::n1::(x,.local)::ns) (p0::p1::o::vs) x v (p0::p1::some v::vs):=.there .a1
theorem SetL.a3 {x:Str} {v:Value} {o:Option Value} {n0 n1 n2:Str × NameKind} {ns:List (Str × NameKind)} {p0 p1 p2:Option Value} {vs:List (Option Value)}:SetL (n0::n1::n2::(x,.local)::ns) (p0::p1::p2::o::vs) x v (p0::p1::p2::some v::vs):=.there .a2
theorem SetL.a4 {x:Str} {v:Value} {o:Option Value} {n0 n1 n2 n3:Str × NameKind} {ns:List (Str × NameKind)} {p0 p1 p2 p3:Option Value} {vs:List (Option Value)}:SetL (n0::n1::n2::n3::(x,.local)::ns) (p0::p1::p2::p3::o::vs) x v (p0::p1::p2::p3::some v::vs):=.there .a3
theorem SetL.a5 {x:Str} {v:Value} {o:Option Value} {n0 n1 n2 n3 n4:Str × NameKind} {ns:List (Str × NameKind)} {p0 p1 p2 p3 p4:Option Value} {vs:List (Option Value)}:SetL (n0::n1::n2::n3::n4::(x,.local)::ns) (p0::p1::p2::p3::p4::o::vs) x v (p0::p1::p2::p3::p4::some v::vs):=.there .a4
theorem SetL.a6 {x:Str} {v:Value} {o:Option Value} {n0 n1 n2 n3 n4 n5:Str × NameKind} {ns:List (Str × NameKind)} {p0 p1 p2 p3 p4 p5:Option Value} {vs:List (Option Value)}:SetL (n0::n1::n2::n3::n4::n5::(x,.local)::ns) (p0::p1::p2::p3::p4::p5::o::vs) x v (p0::p1::p2::p3::p4::p5::some v::vs):=.there .a5
theorem SetL.a7 {x:Str} {v:Value} {o:Option Value} {n0 n1 n2 n3 n4 n5 n6:Str × NameKind} {ns:List (Str × NameKind)} {p0 p1 p2 p3 p4 p5 p6:Option Value} {vs:List (Option Value)}:SetL (n0::n1::n2::n3::n4::n5::n6::(x,.local)::ns) (p0::p1::p2::p3::p4::p5::p6::o::vs) x v (p0::p1::p2::p3::p4::p5::p6::some v::vs):=.there .a6
theorem SetL.a8 {x:Str} {v:Value} {o:Option Value} {n0 n1 n2 n3 n4 n5 n6 n7:Str × NameKind} {ns:List (Str × NameKind)} {p0 p1 p2 p3 p4 p5 p6 p7:Option Value} {vs:List (Option Value)}:SetL (n0::n1::n2::n3::n4::n5::n6::n7::(x,.local)::ns) (p0::p1::p2::p3::p4::p5::p6::p7::o::vs) x v (p0::p1::p2::p3::p4::p5::p6::p7::some v::vs):=.there .a7
theorem SetL.a9 {x:Str} {v:Value} {o:Option Value} {n0 n1 n2 n3 n4 n5 n6 n7 n8:Str × NameKind} {ns:List (Str × NameKind)} {p0 p1 p2 p3 p4 p5 p6 p7 p8:Option Value} {vs:List (Option Value)}:SetL (n0::n1::n2::n3::n4::n5::n6::n7::n8::(x,.local)::ns) (p0::p1::p2::p3::p4::p5::p6::p7::p8::o::vs) x v (p0::p1::p2::p3::p4::p5::p6::p7::p8::some v::vs):=.there .a8
theorem SetL.a10 {x:Str} {v:Value} {o:Option Value} {n0 n1 n2 n3 n4 n5 n6 n7 n8 n9:Str × NameKind} {ns:List (Str × NameKind)} {p0 p1 p2 p3 p4 p5 p6 p7 p8 p9:Option Value} {vs:List (Option Value)}:SetL (n0::n1::n2::n3::n4::n5::n6::n7::n8::n9::(x,.local)::ns) (p0::p1::p2::p3::p4::p5::p6::p7::p8::p9::o::vs) x v (p0::p1::p2::p3::p4::p5::p6::p7::p8::p9::some v::vs):=.there .a9
theorem SetL.a11 {x:Str} {v:Value} {o:Option Value} {n0 n1 n2 n3 n4 n5 n6 n7 n8 n9 n10:Str × NameKind} {ns:List (Str × NameKind)} {p0 p1 p2 p3 p4 p5 p6 p7 p8 p9 p10:Option Value} {vs:List (Option Value)}:SetL (n0::n1::n2::n3::n4::n5::n6::n7::n8::n9::n10::(x,.local)::ns) (p0::p1::p2::p3::p4::p5::p6::p7::p8::p9::p10::o::vs) x v (p0::p1::p2::p3::p4::p5::p6::p7::p8::p9::p10::some v::vs):=.there .a10
theorem SetL.a12 {x:Str} {v:Value} {o:Option Value} {n0 n1 n2 n3 n4 n5 n6 n7 n8 n9 n10 n11:Str × NameKind} {ns:List (Str × NameKind)} {p0 p1 p2 p3 p4 p5 p6 p7 p8 p9 p10 p11:Option Value} {vs:List (Option Value)}:SetL (n0::n1::n2::n3::n4::n5::n6::n7::n8::n9::n10::n11::(x,.local)::ns) (p0::p1::p2::p3::p4::p5::p6::p7::p8::p9::p10::p11::o::vs) x v (p0::p1::p2::p3::p4::p5::p6::p7::p8::p9::p10::p11::some v::vs):=.there .a11
theorem SetL.a13 {x:Str} {v:Value} {o:Option Value} {n0 n1 n2 n3 n4 n5 n6 n7 n8 n9 n10 n11 n12:Str × NameKind} {ns:List (Str × NameKind)} {p0 p1 p2 p3 p4 p5 p6 p7 p8 p9 p10 p11 p12:Option Value} {vs:List (Option Value)}:SetL (n0::n1::n2::n3::n4::n5::n6::n7::n8::n9::n10::n11::n12::(x,.local)::ns) (p0::p1::p2::p3::p4::p5::p6::p7::p8::p9::p10::p11::p12::o::vs) x v (p0::p1::p2::p3::p4::p5::p6::p7::p8::p9::p10::p11::p12::some v::vs):=.there .a12
theorem SetL.a14 {x:Str} {v:Value} {o:Option Value} {n0 n1 n2 n3 n4 n5 n6 n7 n8 n9 n10 n11 n12 n13:Str × NameKind} {ns:List (Str × NameKind)} {p0 p1 p2 p3 p4 p5 p6 p7 p8 p9 p10 p11 p12 p13:Option Value} {vs:List (Option Value)}:SetL (n0::n1::n2::n3::n4::n5::n6::n7::n8::n9::n10::n11::n12::n13::(x,.local)::ns) (p0::p1::p2::p3::p4::p5::p6::p7::p8::p9::p10::p11::p12::p13::o::vs) x v (p0::p1::p2::p3::p4::p5::p6::p7::p8::p9::p10::p11::p12::p13::some v::vs):=.there .a13
theorem SetL.a15 {x:Str} {v:Value} {o:Option Value} {n0 n1 n2 n3 n4 n5 n6 n7 n8 n9 n10 n11 n12 n13 n14:Str × NameKind} {ns:List (Str × NameKind)} {p0 p1 p2 p3 p4 p5 p6 p7 p8 p9 p10 p11 p12 p13 p14:Option Value} {vs:List (Option Value)}:SetL (n0::n1::n2::n3::n4::n5::n6::n7::n8::n9::n10::n11::n12::n13::n14::(x,.local)::ns) (p0::p1::p2::p3::p4::p5::p6::p7::p8::p9::p10::p11::p12::p13::p14::o::vs) x v (p0::p1::p2::p3::p4::p5::p6::p7::p8::p9::p10::p11::p12::p13::p14::some v::vs):=.there .a14
theorem SetL.a16 {x:Str} {v:Value} {o:Option Value} {n0 n1 n2 n3 n4 n5 n6 n7 n8 n9 n10 n11 n12 n13 n14 n15:Str × NameKind} {ns:List (Str × NameKind)} {p0 p1 p2 p3 p4 p5 p6 p7 p8 p9 p10 p11 p12 p13 p14 p15:Option Value} {vs:List (Option Value)}:SetL (n0::n1::n2::n3::n4::n5::n6::n7::n8::n9::n10::n11::n12::n13::n14::n15::(x,.local)::ns) (p0::p1::p2::p3::p4::p5::p6::p7::p8::p9::p10::p11::p12::p13::p14::p15::o::vs) x v (p0::p1::p2::p3::p4::p5::p6::p7::p8::p9::p10::p11::p12::p13::p14::p15::some v::vs):=.there .a15
theorem SetL.a17 {x:Str} {v:Value} {o:Option Value} {n0 n1 n2 n3 n4 n5 n6 n7 n8 n9 n10 n11 n12 n13 n14 n15 n16:Str × NameKind} {ns:List (Str × NameKind)} {p0 p1 p2 p3 p4 p5 p6 p7 p8 p9 p10 p11 p12 p13 p14 p15 p16:Option Value} {vs:List (Option Value)}:SetL (n0::n1::n2::n3::n4::n5::n6::n7::n8::n9::n10::n11::n12::n13::n14::n15::n16::(x,.local)::ns) (p0::p1::p2::p3::p4::p5::p6::p7::p8::p9::p10::p11::p12::p13::p14::p15::p16::o::vs) x v (p0::p1::p2::p3::p4::p5::p6::p7::p8::p9::p10::p11::p12::p13::p14::p15::p16::some v::vs):=.there .a16
theorem SetL.a18 {x:Str} {v:Value} {o:Option Value} {n0 n1 n2 n3 n4 n5 n6 n7 n8 n9 n10 n11 n12 n13 n14 n15 n16 n17:Str × NameKind} {ns:List (Str × NameKind)} {p0 p1 p2 p3 p4 p5 p6 p7 p8 p9 p10 p11 p12 p13 p14 p15 p16 p17:Option Value} {vs:List (Option Value)}:SetL (n0::n1::n2::n3::n4::n5::n6::n7::n8::n9::n10::n11::n12::n13::n14::n15::n16::n17::(x,.local)::ns) (p0::p1::p2::p3::p4::p5::p6::p7::p8::p9::p10::p11::p12::p13::p14::p15::p16::p17::o::vs) x v (p0::p1::p2::p3::p4::p5::p6::p7::p8::p9::p10::p11::p12::p13::p14::p15::p16::p17::some v::vs):=.there .a17
theorem SetL.a19 {x:Str} {v:Value} {o:Option Value} {n0 n1 n2 n3 n4 n5 n6 n7 n8 n9 n10 n11 n12 n13 n14 n15 n16 n17 n18:Str × NameKind} {ns:List (Str × NameKind)} {p0 p1 p2 p3 p4 p5 p6 p7 p8 p9 p10 p11 p12 p13 p14 p15 p16 p17 p18:Option Value} {vs:List (Option Value)}:SetL (n0::n1::n2::n3::n4::n5::n6::n7::n8::n9::n10::n11::n12::n13::n14::n15::n16::n17::n18::(x,.local)::ns) (p0::p1::p2::p3::p4::p5::p6::p7::p8::p9::p10::p11::p12::p13::p14::p15::p16::p17::p18::o::vs) x v (p0::p1::p2::p3::p4::p5::p6::p7::p8::p9::p10::p11::p12::p13::p14::p15::p16::p17::p18::some v::vs):=.there .a18
theorem LocQ.i {ns:List (Str × NameKind)} {vs:List (Option Value)} {x:Str} {v:Value} {K:Value→Prop} (h:LocV ns vs x v) (k:K v):LocQ ns vs x K:=⟨v,h,k⟩
theorem SetQ.i {ns:List (Str × NameKind)} {vs vs':List (Option Value)} {x:Str} {v:Value} {K:List (Option Value)→Prop} (h:SetL ns vs x v vs') (k:K vs'):SetQ ns vs x v K:=⟨vs',h,k⟩
theorem bl {a b k j n L:Nat} (e:b = a + j) (h:a + k < L) (hn:Nat.ble (n + j) k = true):b + n < L:=by have:=Nat.le_of_ble_eq_true hn;lia
theorem bl1 {a k L:Nat} (h:a + k < L):a < L:=Nat.lt_of_le_of_lt (Nat.le_add_right _ _) h
noncomputable abbrev fnSc (ns:List (Str × NameKind)) (mo:List (Str × Const)):Scope:={ kind:=.function,names:=ns,isGenerator:=false,isCoroutine:=false,more:=mo }
noncomputable abbrev PR:Program:=rw_pq1024_01.row.prog
noncomputable def Pure (w:World) (k:Nat) (P:Led) (t:Sem Value) (Out:Led→Value→Prop):Prop :=
  ∀ (c:Cx) (m:Str→Option Value) (own:Led) (s:Shared) (Q E:Value→Shared→Prop),St w c m own P s→c.A.depth + k < recursionLimit→c.A.units + 8 * k < cLine →
    (∀ r P' s',St w c m own P' s'→(∀ p∈P,p∈P')→Out P' r→Q r s')→wpAny (model rw_pq1024_01.row.prog w) c.A t Q E s
theorem Pure.mono {w:World} {k k':Nat} {P:Led} {t:Sem Value} {Out Out':Led→Value→Prop} (h:Pure w k P t Out) (hc:k≤k') (ho:∀ P' r,(∀ p∈P,p∈P')→Out P' r→Out' P' r):Pure w k' P t Out' :=
  fun c m own s Q E S hd hu hret=>h c m own s Q E S (by lia) (by lia) fun r P' s' S' hs o=>hret r P' s' S' hs (ho _ _ hs o)
/-- how a body ends: cells' stand where cells stood -/
noncomputable def Ends (w:World) (c:Cx) (P:Led) (Out:Led→Led→Value→Prop) (r:Value) (s':Shared):Prop :=
  ∃ m' cells' own' P',St w c m' (cells' ++ own') P' s'∧(∀ p∈P,p∈P')∧Out cells' P' r
theorem Ends.of {w:World} {c:Cx} {P P' own':Led} {m:Str→Option Value} {s:Shared} {v:Value} {O:Led→Value→Prop} (S:St w c m own' P' s) (hs:∀ p∈P,p∈P') (h:O P' v):Ends w c P (fun cs P' r=>cs = []∧O P' r) v s:=⟨m,[],own',P',S,hs,rfl,h⟩
theorem apart_left {a b P:Led} (h:Apart (a ++ b) P):Apart a P:=fun q hq=>h q (List.mem_append_left _ hq)
theorem enterM {w:World} {c:Cx} {m:Str→Option Value} {cells rest P:Led} {s:Shared} {Q E:Value→Shared→Prop} {K:Frag} {name qual:Str} {params:Arguments} {body:List Stmt} {ns:List (Str × NameKind)} {mo:List (Str × Const)} {dV kV doc pm cdv ct oc:Value} {an od:Option Addr} {osl:Array (Option Value)} {f:Addr} {vs:List Value} {Out:Led→Led→Value→Prop}
    (hK:K = hd.heap_39 w.params) (S:St w c m (cells ++ rest) P s)
    (ho:K.lookup f = some ⟨oc,od,.func (fnOf name qual params body (fnSc ns mo) dV kV doc pm an cdv ct),osl⟩) (hcd:codeIn K cdv qual = true) (hroom:c.A.depth < recursionLimit)
    (hbind:BindsTo s (fnOf name qual params body (fnSc ns mo) dV kV doc pm an cdv ct) ⟨vs,[]⟩ ((params.args.map (·.arg)).zip vs)) (hlen:(params.args.map (·.arg)).length = vs.length) (hgood:goodFn ns (params.args.map (·.arg)) = true)
    (h:∀ c' s',goodNs ns = true→c'.A.depth = c.A.depth + 1→c'.A.units = c.A.units + 3→St w c' (asg ns (vs.map some)) cells P s' →
      wpAny (model rw_pq1024_01.row.prog w) c'.A (execs body (envX qual (fnSc ns mo) c'.L f cdv [])) (fun fl s''=>Ends w c' P (fun cs P' r=>cs.map (·.1) = cells.map (·.1)∧Out cs P' r) (match fl with | .ret v=>v | _=>.none) s'') (fun _ _=>False) s')
    (ret:∀ r cells' P' s',St w c m (cells' ++ rest) P' s'→cells'.map (·.1) = cells.map (·.1)→(∀ p∈P,p∈P')→Out cells' P' r→Q r s') :
    codeAny (model rw_pq1024_01.row.prog w) c.A (.call (.ref f) ⟨vs,[]⟩) (fun r s'=>match r with | .ok (.ret v)=>Q v s' | .ok _=>False | .error e=>E e s') s:=by
  subst hK
  refine ex1 (S.fr) ?_;intro e hy3;refine an3 hy3 ?_;clear hy3;intro hA hf hke
  have Nsub:News c.g c.L s.heap (cells ++ P):=fun p hp=>S.N p ((List.mem_append.mp hp).elim (fun h=>List.mem_append_left _ (List.mem_append_left _ h)) fun h=>List.mem_append_right _ h)
  simp only [goodFn,Bool.and_eq_true,List.all_eq_true,bne_iff_ne,ne_eq] at hgood
  refine an2 hgood ?_;clear hgood;intro hx4 hcell
  refine an2 hx4 ?_;clear hx4;intro hg hpre
  have hloc:∀ y∈(params.args.map (·.arg)).zip vs,(fnSc ns mo).names.lookup y.1 = some .local:=fun y hy=>(goodNs_mem hg (prefix_mem hpre _ (List.of_mem_zip hy).1)).1
  refine code_defG (news:=cells ++ P) S.B S.F S.X Nsub S.T hA hf hke ho hcd hroom hbind hloc (fun g L' h₁ FG F' N' B' X' T' G'=>?_) rfl rfl rfl hcell
  have hasg:(fun y=>((params.args.map (·.arg)).zip vs).reverse.lookup y) = asg ns (vs.map some):=funext fun y=>asg_args y hg hpre hlen
  rw [hasg] at F'
  have ndc:(cells.map (·.1)).Nodup:=by
    have:=S.nd
    rw [List.map_append] at this
    exact (List.nodup_append.mp this).1
  let c':Cx:=⟨c.pp,c.loose,c.mean,c.mg,c.mb,c.A,c.base,e::c.outer,g,L',c.A.deeper (envOf qual (fnSc ns mo) L' f cdv),s⟩
  have S':St w c' (asg ns (vs.map some)) cells P { s with heap:=h₁,toks:=s.toks + ((params.args.map (·.arg)).zip vs).length } :=
    ⟨F',N',apart_left S.ap,ndc,X',T',B',S.hh,⟨_,Around.frames_deeper B'.stack,rfl,rfl⟩,rfl,rfl,rfl⟩
  refine wpAny_mono (h c' _ hg rfl rfl S') (fun fl s' hdn=>?_) fun _ _ e=>e.elim
  refine ex4 hdn ?_;clear hdn;intro m₂ cells' own' P' hy5;refine an4 hy5 ?_;clear hy5;intro S₂ hs hcs hO
  refine mk3 L' m₂ ((cells' ++ own') ++ P') ⟨S₂.F,S₂.N,fun F₃ N₃=>?_⟩
  have hid:∀ q∈rest,q.1 ∉ (cells ++ P).map (·.1):=fun q hq hm=>by
    refine ex1 (List.mem_map.mp hm) ?_;intro p hy6;refine an2 hy6 ?_;clear hy6;intro hp e
    rcases List.mem_append.mp hp with hp | hp
    · have:=S.nd
      rw [List.map_append,List.nodup_append] at this
      exact this.2.2 p.1 (List.mem_map_of_mem hp) q.1 (List.mem_map_of_mem hq) e
    · exact S.ap q (List.mem_append_right _ hq) p hp e
  have gq:∀ q∈rest,g.get? q.1 = some q.2:=fun q hq=>G' _ _ (S.N q (List.mem_append_left _ (List.mem_append_right _ hq))).1 (hid q hq)
  have eq':s' = { s with heap:=s'.heap,toks:=s'.toks }:=by
    have h1:=S₂.eg
    have h2:=S₂.ed
    have h3:=S₂.eo
    cases s'
    dsimp only [c'] at h1 h2 h3
    subst h1 h2 h3
    rfl
  have ap':Apart (cells' ++ rest) P':=by
    intro q hq p hp e
    rcases List.mem_append.mp hq with hq | hq
    · exact S₂.ap q (List.mem_append_left _ hq) p hp e
    · have h1:=(S₂.N p (List.mem_append_right _ hp)).2.2
      rw [e,gq q hq] at h1
      cases h1
  have nd':((cells' ++ rest).map (·.1)).Nodup:=by
    have:=S.nd
    rw [List.map_append] at this ⊢
    rw [hcs];exact this
  refine ret _ cells' P' s' ⟨F₃,fun p hp=>?_,ap',nd',S.X,S.T,S.B,S.hh,S.fr,(congrArg Shared.gens eq').trans S.eg,(congrArg Shared.drawn eq').trans S.ed,(congrArg Shared.os eq').trans S.eo⟩ hcs hs hO
  rcases List.mem_append.mp hp with hp | hp
  · rcases List.mem_append.mp hp with hp | hp
    · exact N₃ p (List.mem_append_left _ (List.mem_append_left _ hp))
    · exact ⟨S₂.F.keep _ _ (gq p hp),(S.N p (List.mem_append_left _ (List.mem_append_right _ hp))).2⟩
  · exact N₃ p (List.mem_append_right _ hp)
theorem enter {w:World} {c:Cx} {m:Str→Option Value} {own P:Led} {s:Shared} {Q E:Value→Shared→Prop} {K:Frag} {name qual:Str} {params:Arguments} {body:List Stmt} {ns:List (Str × NameKind)} {mo:List (Str × Const)} {dV kV doc pm cdv ct oc:Value} {an od:Option Addr} {osl:Array (Option Value)} {f:Addr} {vs:List Value} {Out:Led→Value→Prop}
    (hK:K = hd.heap_39 w.params) (S:St w c m own P s)
    (ho:K.lookup f = some ⟨oc,od,.func (fnOf name qual params body (fnSc ns mo) dV kV doc pm an cdv ct),osl⟩) (hcd:codeIn K cdv qual = true) (hroom:c.A.depth < recursionLimit)
    (hbind:BindsTo s (fnOf name qual params body (fnSc ns mo) dV kV doc pm an cdv ct) ⟨vs,[]⟩ ((params.args.map (·.arg)).zip vs)) (hlen:(params.args.map (·.arg)).length = vs.length) (hgood:goodFn ns (params.args.map (·.arg)) = true)
    (h:∀ c' s',goodNs ns = true→c'.A.depth = c.A.depth + 1→c'.A.units = c.A.units + 3→St w c' (asg ns (vs.map some)) [] P s' →
      wpAny (model rw_pq1024_01.row.prog w) c'.A (execs body (envX qual (fnSc ns mo) c'.L f cdv [])) (fun fl s''=>Ends w c' P (fun cs P' r=>cs = []∧Out P' r) (match fl with | .ret v=>v | _=>.none) s'') (fun _ _=>False) s')
    (ret:∀ r P' s',St w c m own P' s'→(∀ p∈P,p∈P')→Out P' r→Q r s') :
    codeAny (model rw_pq1024_01.row.prog w) c.A (.call (.ref f) ⟨vs,[]⟩) (fun r s'=>match r with | .ok (.ret v)=>Q v s' | .ok _=>False | .error e=>E e s') s:=by
  refine enterM (cells:=[]) (rest:=own) (Out:=fun cs P' r=>cs = []∧Out P' r) hK S ho hcd hroom hbind hlen hgood (fun c' s' h0 h1 h2 S'=>wpAny_mono (h c' s' h0 h1 h2 S') (fun fl s'' hf=>?_) fun _ _ e=>e) (fun r cs P' s' S' e hs o=>?_)
  · refine ex4 hf ?_;clear hf;intro m' cs own' P' hy8;refine an4 hy8 ?_;clear hy8;intro S'' hs hx7 ho
    subst hx7
    exact mk4 m' [] own' P' ⟨S'',hs,rfl,rfl,ho⟩
  · refine an2 o ?_;clear o;intro hx9 o
    subst hx9
    exact ret r P' s' S' hs o
end
section
open PySem.Calls
section
variable {w:World} {c:Cx} {m:Str→Option Value} {own P:Led} {s:Shared} {E:Value→Shared→Prop} {cn:Str} {cs:Scope} {a:Addr} {ccd:Value} {cl:List (Str × Addr)}
theorem ev_int {i:Int} {k:Nat} {pos:Pos} {env:Env} {Q:Value→Shared→Prop} (S:St w c m own P s) (h:∀ s' tk,St w c m own P s'→Q (.int i tk) s') :
    wpAny (model rw_pq1024_01.row.prog w) c.A (eval (.Constant (.int i) k pos) env) Q E s:=wpAny_Constant_int (h _ _ (S.tok _))
theorem ev_str {x:Str} {k:Nat} {pos:Pos} {env:Env} {Q:Value→Shared→Prop} (S:St w c m own P s) (h:∀ s' tk,St w c m own P s'→Q (.str x tk) s') :
    wpAny (model rw_pq1024_01.row.prog w) c.A (eval (.Constant (.str x) k pos) env) Q E s:=Constant_str (h _ _ (S.tok _))
theorem ev_loc {ns:List (Str × NameKind)} {mo:List (Str × Const)} {vals:List (Option Value)} {x:Str} {pos:Pos} {Q:Value→Shared→Prop} (S:St w c (asg ns vals) own P s) (g:goodNs ns = true) (h:LocQ ns vals x (fun v=>Q v s)) :
    wpAny (model rw_pq1024_01.row.prog w) c.A (eval (.Name x pos) (envX cn (fnSc ns mo) c.L a ccd cl)) Q E s:=by
  refine ex1 h ?_;clear h;intro v hy1;refine an2 hy1 ?_;clear hy1;intro hl h
  exact nameX_L S.F (hl.asg g) h rfl (goodNs_mem g hl.mem).1 (goodNs_mem g hl.mem).2
theorem ev_glob {ns:List (Str × NameKind)} {mo:List (Str × Const)} {x:Str} {pos:Pos} {v:Value} {Q:Value→Shared→Prop} (S:St w c m own P s) (g:goodNs ns = true) (e:nsIn (hd.heap_39 w.params) mainGlobals x = some (some v)) (hx:(x,NameKind.globalImplicit)∈ns) (h:Q v s) :
    wpAny (model rw_pq1024_01.row.prog w) c.A (eval (.Name x pos) (envX cn (fnSc ns mo) c.L a ccd cl)) Q E s:=nameX_K S.F S.X S.tr e h rfl (goodNs_mem g hx).1 (goodNs_mem g hx).2
theorem ev_bi {ns:List (Str × NameKind)} {mo:List (Str × Const)} {x:Str} {pos:Pos} {v:Value} {Q:Value→Shared→Prop} (S:St w c m own P s) (g:goodNs ns = true) (e:nsIn (hd.heap_39 w.params) mainGlobals x = some none) (hv:bootBuiltins x = some v) (hn:x≠"__name__") (hx:(x,NameKind.globalImplicit)∈ns) (h:Q v s) :
    wpAny (model rw_pq1024_01.row.prog w) c.A (eval (.Name x pos) (envX cn (fnSc ns mo) c.L a ccd cl)) Q E s:=nameX_B S.F S.X S.tr e hv hn h rfl (goodNs_mem g hx).1 (goodNs_mem g hx).2
theorem st_loc {ns:List (Str × NameKind)} {mo:List (Str × Const)} {vals:List (Option Value)} {x:Str} {v:Value} {Q:Unit→Shared→Prop} (S:St w c (asg ns vals) own P s) (g:goodNs ns = true) (h:SetQ ns vals x v (fun vals'=>∀ s',St w c (asg ns vals') own P s'→Q () s')) :
    wpAny (model rw_pq1024_01.row.prog w) c.A (storeName (envX cn (fnSc ns mo) c.L a ccd cl) x v) Q E s:=by
  refine ex1 h ?_;clear h;intro vals' hy2;refine an2 hy2 ?_;clear hy2;intro hl h
  exact storeX_L S.F S.N (fun h' F' N'=>h _ (S.same (by rw [hl.asg g] at F';exact F') N' S.ap S.nd)) rfl (goodNs_mem g hl.mem).1
theorem nl {vs:List Value} {Q:Value→Shared→Prop} (S:St w c m own P s) (h:∀ l s',St w c m own ((l,listOf vs.toArray 0)::P) s'→Q (.ref l) s') (hsz:vs.length≤sizeLine:=by size_fits) :
    wpAny (model rw_pq1024_01.row.prog w) c.A (newList vs) Q E s :=
  newList_K S.F S.N (fun l h' F' N' lt=>h l _ (S.same F' (fun p hp=>N' p (by
    rcases List.mem_append.mp hp with hp | hp
    · exact .tail _ (List.mem_append_left _ hp)
    · rcases List.mem_cons.mp hp with rfl | hp
      · exact .head _
      · exact .tail _ (List.mem_append_right _ hp))) (fun q hq p hp=>by
    rcases List.mem_cons.mp hp with rfl | hp
    · exact fun e=>by have:=lt q (List.mem_append_left _ hq);rw [← e] at this;exact Nat.lt_irrefl _ this
    · exact S.ap q hq p hp) S.nd)) hsz
theorem nl_own {vs:List Value} {Q:Value→Shared→Prop} (S:St w c m own P s) (h:∀ l s',St w c m ((l,listOf vs.toArray 0)::own) P s'→Q (.ref l) s') (hsz:vs.length≤sizeLine:=by size_fits) :
    wpAny (model rw_pq1024_01.row.prog w) c.A (newList vs) Q E s :=
  newList_K S.F S.N (fun l h' F' N' lt=>h l _ (S.same F' N' (fun q hq p hp=>by
    rcases List.mem_cons.mp hq with rfl | hq
    · exact fun e=>by have:=lt p (List.mem_append_right _ hp);rw [e] at this;exact Nat.lt_irrefl _ this
    · exact S.ap q hq p hp) (by
    refine List.nodup_cons.mpr ⟨fun hm=>?_,S.nd⟩
    refine ex1 (List.mem_map.mp hm) ?_;intro q hy3;refine an2 hy3 ?_;clear hy3;intro hq e
    have:=lt q (List.mem_append_left _ hq)
    rw [e] at this
    exact Nat.lt_irrefl _ this))) hsz
noncomputable abbrev tupOf (vs:List Value) (n:Nat):Obj:={ cls:=.type "tuple",data:=.seq vs.toArray n }
theorem nt {vs:List Value} {Q:Value→Shared→Prop} (S:St w c m own P s) (h:∀ l s',St w c m own ((l,tupOf vs 0)::P) s'→Q (.ref l) s') (hsz:vs.length≤sizeLine:=by size_fits) :
    wpAny (model rw_pq1024_01.row.prog w) c.A (newTuple vs) Q E s :=
  kup_newTuple S.F S.N (fun l h' F' N' lt=>h l _ (S.same F' (fun p hp=>N' p (by
    rcases List.mem_append.mp hp with hp | hp
    · exact .tail _ (List.mem_append_left _ hp)
    · rcases List.mem_cons.mp hp with rfl | hp
      · exact .head _
      · exact .tail _ (List.mem_append_right _ hp))) (fun q hq p hp=>by
    rcases List.mem_cons.mp hp with rfl | hp
    · exact fun e=>by have:=lt q (List.mem_append_left _ hq);rw [← e] at this;exact Nat.lt_irrefl _ this
    · exact S.ap q hq p hp) S.nd)) hsz
theorem inst_at (S:St w c m own P s) {x C d:Addr} {od:Obj} (hx:(x,instObj C d)∈P) (hd:(d,od)∈P):InstAt s.heap x (instObj C d) C (some od) :=
  ⟨S.inP hx,rfl,rfl,S.inP hd⟩
theorem ga {x C d:Addr} {es:List DictEntry} {n:Nat} {name:Str} {ex:Bool} {v:Value} {Q:Value→Shared→Prop} (hg:plainGet (hd.heap_39 w.params) C name = true) (hh:hasDictIn (hd.heap_39 w.params) C = true) (ha:findIn (hd.heap_39 w.params) (.ref C) name = some none)
    (S:St w c m own P s) (hx:(x,instObj C d)∈P) (hd:(d,dictOf es n)∈P) (hl:getL name es = some (some v)) (hv:handedIn v = true) (h:∀ s',St w c m own P s'→Q v s'):wpAny (model rw_pq1024_01.row.prog w) c.A (getAttr (.ref x) name ex) Q E s :=
  get_own S.F S.X (inst_at S hx hd) hg hh ha rfl hl hv (h _ (S.tok _))
theorem gc {x C d:Addr} {es:List DictEntry} {n:Nat} {name:Str} {ex:Bool} {a:Value} {Q:Value→Shared→Prop} (hg:plainGet (hd.heap_39 w.params) C name = true) (hh:hasDictIn (hd.heap_39 w.params) C = true) (ha:findIn (hd.heap_39 w.params) (.ref C) name = some (some a))
    (hn:specialIn (hd.heap_39 w.params) a "__get__" = some none) (hv:handedIn a = true) (hc:copiedNames.contains name = false)
    (S:St w c m own P s) (hx:(x,instObj C d)∈P) (hd:(d,dictOf es n)∈P) (hl:getL name es = some none) (h:∀ s',St w c m own P s'→Q a s'):wpAny (model rw_pq1024_01.row.prog w) c.A (getAttr (.ref x) name ex) Q E s :=
  get_cls S.F S.X (inst_at S hx hd) hg hh ha hn hv hc hl (h _ (S.tok _))
/-- calls of the text's own defs by name -/
theorem call1 {ns:List (Str × NameKind)} {mo:List (Str × Const)} {x:Str} {px pos:Pos} {fv:Value} {e1:Expr} {Q:Value→Shared→Prop} (S:St w c m own P s) (g:goodNs ns = true) (e:nsIn (hd.heap_39 w.params) mainGlobals x = some (some fv)) (hkp:keepIn (hd.heap_39 w.params) fv = true) (hx:(x,NameKind.globalImplicit)∈ns)
    (h:wpAny (model rw_pq1024_01.row.prog w) c.A (eval e1 (envX cn (fnSc ns mo) c.L a ccd cl)) (fun v1 s1=>(hd.heap_39 w.params).In s1.heap∧wpAny (model rw_pq1024_01.row.prog w) c.A (call fv [v1]) Q E s1) E s)
    (he1:starEach [e1] (envX cn (fnSc ns mo) c.L a ccd cl) = [(false,eval e1 (envX cn (fnSc ns mo) c.L a ccd cl))]:=by rfl) :
    wpAny (model rw_pq1024_01.row.prog w) c.A (eval (.Call (.Name x px) [e1] [] pos) (envX cn (fnSc ns mo) c.L a ccd cl)) Q E s:=by
  refine Call_ (ev_glob S g e hx ?_)
  refine callWith_K S.X hkp ?_ he1 rfl
  refine args_cons (wpAny_mono h (fun v s1 h1=>args_nil h1) fun _ _ e=>e) he1
theorem call2 {ns:List (Str × NameKind)} {mo:List (Str × Const)} {x:Str} {px pos:Pos} {fv:Value} {e1 e2:Expr} {Q:Value→Shared→Prop} (S:St w c m own P s) (g:goodNs ns = true) (e:nsIn (hd.heap_39 w.params) mainGlobals x = some (some fv)) (hkp:keepIn (hd.heap_39 w.params) fv = true) (hx:(x,NameKind.globalImplicit)∈ns)
    (h:wpAny (model rw_pq1024_01.row.prog w) c.A (eval e1 (envX cn (fnSc ns mo) c.L a ccd cl)) (fun v1 s1=>wpAny (model rw_pq1024_01.row.prog w) c.A (eval e2 (envX cn (fnSc ns mo) c.L a ccd cl)) (fun v2 s2=>(hd.heap_39 w.params).In s2.heap∧wpAny (model rw_pq1024_01.row.prog w) c.A (call fv [v1,v2]) Q E s2) E s1) E s)
    (he1:starEach [e1,e2] (envX cn (fnSc ns mo) c.L a ccd cl) = [(false,eval e1 (envX cn (fnSc ns mo) c.L a ccd cl)),(false,eval e2 (envX cn (fnSc ns mo) c.L a ccd cl))]:=by rfl) (he2:starEach [e2] (envX cn (fnSc ns mo) c.L a ccd cl) = [(false,eval e2 (envX cn (fnSc ns mo) c.L a ccd cl))]:=by rfl) :
    wpAny (model rw_pq1024_01.row.prog w) c.A (eval (.Call (.Name x px) [e1,e2] [] pos) (envX cn (fnSc ns mo) c.L a ccd cl)) Q E s:=by
  refine Call_ (ev_glob S g e hx ?_)
  refine callWith_K S.X hkp ?_ (by rw [he2];exact he1) (by rw [he2];rfl)
  exact args_cons (wpAny_mono h (fun v s1 h1=>args_cons (wpAny_mono h1 (fun v2 s2 h2=>args_nil h2) fun _ _ e=>e) he2) fun _ _ e=>e) (by rw [he2];exact he1)
/-- a list or tuple display of written length -/
theorem sp0 {env:Env} {pos:Pos} {Q:List Value→Shared→Prop} (h:Q [] s):wpAny (model rw_pq1024_01.row.prog w) c.A (spliced (backTo pos (starEach [] env))) Q E s:=args_nil h
theorem sp1 {env:Env} {e:Expr} {rest:List Expr} {pos:Pos} {Q:List Value→Shared→Prop} (h:wpAny (model rw_pq1024_01.row.prog w) c.A (eval e env) (fun v s₁=>wpAny (model rw_pq1024_01.row.prog w) c.A (spliced (backTo pos (starEach rest env))) (fun vs s₂=>Q (v::vs) s₂) E s₁) E s)
    (he:starEach (e::rest) env = (false,eval e env)::starEach rest env:=by rfl):wpAny (model rw_pq1024_01.row.prog w) c.A (spliced (backTo pos (starEach (e::rest) env))) Q E s:=args_cons h he
end
theorem ev_lv {w:World} {c:Cx} {own P:Led} {s:Shared} {cn:Str} {mo:List (Str × Const)} {a:Addr} {ccd:Value} {cl:List (Str × Addr)} {x:Str} {v:Value} {pos:Pos} {ns:List (Str × NameKind)} {vs:List (Option Value)} {E:Value→Shared→Prop} {Q:Value→Shared→Prop} (S:St w c (asg ns vs) own P s) (g:goodNs ns = true) (hx:LocV ns vs x v) (h:Q v s):wpAny (model rw_pq1024_01.row.prog w) c.A (eval (.Name x pos) (envX cn (fnSc ns mo) c.L a ccd cl)) Q E s:=ev_loc S g ⟨v,hx,h⟩
section
variable {α:Type} {a0 a1 a2 a3 a4 a5 a6 a7 a8 a9 a10 a11 a12 a13 a14 a15 a16 a17 a18 a19 a20 a21 a22 a23 a24 a25 a26 x:α} {l:List α}
theorem mm0:x∈x::l:=.head _
theorem mm1:x∈a0::x::l:=.tail _ mm0
theorem mm2:x∈a0::a1::x::l:=.tail _ mm1
theorem mm3:x∈a0::a1::a2::x::l:=.tail _ mm2
theorem mm4:x∈a0::a1::a2::a3::x::l:=.tail _ mm3
theorem mm5:x∈a0::a1::a2::a3::a4::x::l:=.tail _ mm4
theorem mm6:x∈a0::a1::a2::a3::a4::a5::x::l:=.tail _ mm5
theorem mm7:x∈a0::a1::a2::a3::a4::a5::a6::x::l:=.tail _ mm6
theorem mm8:x∈a0::a1::a2::a3::a4::a5::a6::a7::x::l:=.tail _ mm7
theorem mm9:x∈a0::a1::a2::a3::a4::a5::a6::a7::a8::x::l:=.tail _ mm8
theorem mm10:x∈a0::a1::a2::a3::a4::a5::a6::a7::a8::a9::x::l:=.tail _ mm9
theorem mm11:x∈a0::a1::a2::a3::a4::a5::a6::a7::a8::a9::a10::x::l:=.tail _ mm10
theorem mm12:x∈a0::a1::a2::a3::a4::a5::a6::a7::a8::a9::a10::a11::x::l:=.tail _ mm11
theorem mm13:x∈a0::a1::a2::a3::a4::a5::a6::a7::a8::a9::a10::a11::a12::x::l:=.tail _ mm12
theorem mm14:x∈a0::a1::a2::a3::a4::a5::a6::a7::a8::a9::a10::a11::a12::a13::x::l:=.tail _ mm13
theorem mm15:x∈a0::a1::a2::a3::a4::a5::a6::a7::a8::a9::a10::a11::a12::a13::a14::x::l:=.tail _ mm14
theorem mm16:x∈a0::a1::a2::a3::a4::a5::a6::a7::a8::a9::a10::a11::a12::a13::a14::a15::x::l:=.tail _ mm15
theorem mm17:x∈a0::a1::a2::a3::a4::a5::a6::a7::a8::a9::a10::a11::a12::a13::a14::a15::a16::x::l:=.tail _ mm16
theorem mm18:x∈a0::a1::a2::a3::a4::a5::a6::a7::a8::a9::a10::a11::a12::a13::a14::a15::a16::a17::x::l:=.tail _ mm17
theorem mm19:x∈a0::a1::a2::a3::a4::a5::a6::a7::a8::a9::a10::a11::a12::a13::a14::a15::a16::a17::a18::x::l:=.tail _ mm18
theorem mm20:x∈a0::a1::a2::a3::a4::a5::a6::a7::a8::a9::a10::a11::a12::a13::a14::a15::a16::a17::a18::a19::x::l:=.tail _ mm19
theorem mm21:x∈a0::a1::a2::a3::a4::a5::a6::a7::a8::a9::a10::a11::a12::a13::a14::a15::a16::a17::a18::a19::a20::x::l:=.tail _ mm20
theorem mm22:x∈a0::a1::a2::a3::a4::a5::a6::a7::a8::a9::a10::a11::a12::a13::a14::a15::a16::a17::a18::a19::a20::a21::x::l:=.tail _ mm21
theorem mm23:x∈a0::a1::a2::a3::a4::a5::a6::a7::a8::a9::a10::a11::a12::a13::a14::a15::a16::a17::a18::a19::a20::a21::a22::x::l:=.tail _ mm22
theorem mm24:x∈a0::a1::a2::a3::a4::a5::a6::a7::a8::a9::a10::a11::a12::a13::a14::a15::a16::a17::a18::a19::a20::a21::a22::a23::x::l:=.tail _ mm23
theorem mm25:x∈a0::a1::a2::a3::a4::a5::a6::a7::a8::a9::a10::a11::a12::a13::a14::a15::a16::a17::a18::a19::a20::a21::a22::a23::a24::x::l:=.tail _ mm24
theorem mm26:x∈a0::a1::a2::a3::a4::a5::a6::a7::a8::a9::a10::a11::a12::a13::a14::a15::a16::a17::a18::a19::a20::a21::a22::a23::a24::a25::x::l:=.tail _ mm25
theorem mm27:x∈a0::a1::a2::a3::a4::a5::a6::a7::a8::a9::a10::a11::a12::a13::a14::a15::a16::a17::a18::a19::a20::a21::a22::a23::a24::a25::a26::x::l:=.tail _ mm26
end
end
section
open PySem.Calls
theorem g_CONST (w:World):nsIn (hd.heap_39 w.params) mainGlobals (Str.ofString "CONST") = some (some (.int 0 196)):=by kernel_rfl
theorem g_LOCAL (w:World):nsIn (hd.heap_39 w.params) mainGlobals (Str.ofString "LOCAL") = some (some (.int 1 198)):=by kernel_rfl
theorem g_GLOBAL (w:World):nsIn (hd.heap_39 w.params) mainGlobals (Str.ofString "GLOBAL") = some (some (.int 2 200)):=by kernel_rfl
theorem g_SET_LOCAL (w:World):nsIn (hd.heap_39 w.params) mainGlobals (Str.ofString "SET_LOCAL") = some (some (.int 3 202)):=by kernel_rfl
theorem g_SET_GLOBAL (w:World):nsIn (hd.heap_39 w.params) mainGlobals (Str.ofString "SET_GLOBAL") = some (some (.int 4 204)):=by kernel_rfl
theorem g_DEFINE (w:World):nsIn (hd.heap_39 w.params) mainGlobals (Str.ofString "DEFINE") = some (some (.int 5 206)):=by kernel_rfl
theorem g_LAMBDA (w:World):nsIn (hd.heap_39 w.params) mainGlobals (Str.ofString "LAMBDA") = some (some (.int 7 208)):=by kernel_rfl
theorem g_CALL (w:World):nsIn (hd.heap_39 w.params) mainGlobals (Str.ofString "CALL") = some (some (.int 8 210)):=by kernel_rfl
theorem g_SEQ (w:World):nsIn (hd.heap_39 w.params) mainGlobals (Str.ofString "SEQ") = some (some (.int 9 212)):=by kernel_rfl
theorem g_PRIM (w:World):nsIn (hd.heap_39 w.params) mainGlobals (Str.ofString "PRIM") = some (some (.int 10 214)):=by kernel_rfl
theorem g_FIX (w:World):nsIn (hd.heap_39 w.params) mainGlobals (Str.ofString "FIX") = some (some (.int 11 216)):=by kernel_rfl
theorem g_TOP (w:World):nsIn (hd.heap_39 w.params) mainGlobals (Str.ofString "TOP") = some (some (.int (-1) 620)):=by kernel_rfl
theorem g_UNASSIGNED (w:World):nsIn (hd.heap_39 w.params) mainGlobals (Str.ofString "UNASSIGNED") = some (some (.ref 427)):=by kernel_rfl
theorem g_Const (w:World):nsIn (hd.heap_39 w.params) mainGlobals (Str.ofString "Const") = some (some (.ref 66)):=by kernel_rfl
theorem kp_Const (w:World):keepIn (hd.heap_39 w.params) (.ref 66) = true:=by kernel_rfl
theorem g_Local (w:World):nsIn (hd.heap_39 w.params) mainGlobals (Str.ofString "Local") = some (some (.ref 85)):=by kernel_rfl
theorem kp_Local (w:World):keepIn (hd.heap_39 w.params) (.ref 85) = true:=by kernel_rfl
theorem g_Global (w:World):nsIn (hd.heap_39 w.params) mainGlobals (Str.ofString "Global") = some (some (.ref 104)):=by kernel_rfl
theorem kp_Global (w:World):keepIn (hd.heap_39 w.params) (.ref 104) = true:=by kernel_rfl
theorem g_SetLocal (w:World):nsIn (hd.heap_39 w.params) mainGlobals (Str.ofString "SetLocal") = some (some (.ref 137)):=by kernel_rfl
theorem kp_SetLocal (w:World):keepIn (hd.heap_39 w.params) (.ref 137) = true:=by kernel_rfl
theorem g_Lambda (w:World):nsIn (hd.heap_39 w.params) mainGlobals (Str.ofString "Lambda") = some (some (.ref 184)):=by kernel_rfl
theorem kp_Lambda (w:World):keepIn (hd.heap_39 w.params) (.ref 184) = true:=by kernel_rfl
theorem g_Call (w:World):nsIn (hd.heap_39 w.params) mainGlobals (Str.ofString "Call") = some (some (.ref 217)):=by kernel_rfl
theorem kp_Call (w:World):keepIn (hd.heap_39 w.params) (.ref 217) = true:=by kernel_rfl
theorem g_Seq (w:World):nsIn (hd.heap_39 w.params) mainGlobals (Str.ofString "Seq") = some (some (.ref 250)):=by kernel_rfl
theorem kp_Seq (w:World):keepIn (hd.heap_39 w.params) (.ref 250) = true:=by kernel_rfl
theorem g_Fix (w:World):nsIn (hd.heap_39 w.params) mainGlobals (Str.ofString "Fix") = some (some (.ref 283)):=by kernel_rfl
theorem kp_Fix (w:World):keepIn (hd.heap_39 w.params) (.ref 283) = true:=by kernel_rfl
theorem g_are_same_list (w:World):nsIn (hd.heap_39 w.params) mainGlobals (Str.ofString "are_same_list") = some (some (.ref 292)):=by kernel_rfl
theorem kp_are_same_list (w:World):keepIn (hd.heap_39 w.params) (.ref 292) = true:=by kernel_rfl
theorem g_rebuilt (w:World):nsIn (hd.heap_39 w.params) mainGlobals (Str.ofString "rebuilt") = some (some (.ref 299)):=by kernel_rfl
theorem kp_rebuilt (w:World):keepIn (hd.heap_39 w.params) (.ref 299) = true:=by kernel_rfl
theorem g_let_node (w:World):nsIn (hd.heap_39 w.params) mainGlobals (Str.ofString "let_node") = some (some (.ref 306)):=by kernel_rfl
theorem kp_let_node (w:World):keepIn (hd.heap_39 w.params) (.ref 306) = true:=by kernel_rfl
theorem g_is_let (w:World):nsIn (hd.heap_39 w.params) mainGlobals (Str.ofString "is_let") = some (some (.ref 313)):=by kernel_rfl
theorem kp_is_let (w:World):keepIn (hd.heap_39 w.params) (.ref 313) = true:=by kernel_rfl
theorem g_seq_of (w:World):nsIn (hd.heap_39 w.params) mainGlobals (Str.ofString "seq_of") = some (some (.ref 320)):=by kernel_rfl
theorem kp_seq_of (w:World):keepIn (hd.heap_39 w.params) (.ref 320) = true:=by kernel_rfl
theorem g_Facts (w:World):nsIn (hd.heap_39 w.params) mainGlobals (Str.ofString "Facts") = some (some (.ref 379)):=by kernel_rfl
theorem kp_Facts (w:World):keepIn (hd.heap_39 w.params) (.ref 379) = true:=by kernel_rfl
theorem g_count_in (w:World):nsIn (hd.heap_39 w.params) mainGlobals (Str.ofString "count_in") = some (some (.ref 390)):=by kernel_rfl
theorem kp_count_in (w:World):keepIn (hd.heap_39 w.params) (.ref 390) = true:=by kernel_rfl
theorem g_note_node (w:World):nsIn (hd.heap_39 w.params) mainGlobals (Str.ofString "note_node") = some (some (.ref 397)):=by kernel_rfl
theorem kp_note_node (w:World):keepIn (hd.heap_39 w.params) (.ref 397) = true:=by kernel_rfl
theorem g_facts_of (w:World):nsIn (hd.heap_39 w.params) mainGlobals (Str.ofString "facts_of") = some (some (.ref 404)):=by kernel_rfl
theorem kp_facts_of (w:World):keepIn (hd.heap_39 w.params) (.ref 404) = true:=by kernel_rfl
theorem g_Pair (w:World):nsIn (hd.heap_39 w.params) mainGlobals (Str.ofString "Pair") = some (some (.ref 445)):=by kernel_rfl
theorem g_is_unassigned (w:World):nsIn (hd.heap_39 w.params) mainGlobals (Str.ofString "is_unassigned") = some (some (.ref 456)):=by kernel_rfl
theorem kp_is_unassigned (w:World):keepIn (hd.heap_39 w.params) (.ref 456) = true:=by kernel_rfl
theorem g_begun_late (w:World):nsIn (hd.heap_39 w.params) mainGlobals (Str.ofString "begun_late") = some (some (.ref 463)):=by kernel_rfl
theorem kp_begun_late (w:World):keepIn (hd.heap_39 w.params) (.ref 463) = true:=by kernel_rfl
theorem g_Fixing (w:World):nsIn (hd.heap_39 w.params) mainGlobals (Str.ofString "Fixing") = some (some (.ref 501)):=by kernel_rfl
theorem kp_Fixing (w:World):keepIn (hd.heap_39 w.params) (.ref 501) = true:=by kernel_rfl
theorem g_fixed (w:World):nsIn (hd.heap_39 w.params) mainGlobals (Str.ofString "fixed") = some (some (.ref 512)):=by kernel_rfl
theorem kp_fixed (w:World):keepIn (hd.heap_39 w.params) (.ref 512) = true:=by kernel_rfl
theorem g_law_draw (w:World):nsIn (hd.heap_39 w.params) mainGlobals (Str.ofString "_law_draw") = some (some (.ref 519)):=by kernel_rfl
theorem kp_law_draw (w:World):keepIn (hd.heap_39 w.params) (.ref 519) = true:=by kernel_rfl
theorem g_law_deck_of (w:World):nsIn (hd.heap_39 w.params) mainGlobals (Str.ofString "_law_deck_of") = some (some (.ref 524)):=by kernel_rfl
theorem kp_law_deck_of (w:World):keepIn (hd.heap_39 w.params) (.ref 524) = true:=by kernel_rfl
theorem g_law_one (w:World):nsIn (hd.heap_39 w.params) mainGlobals (Str.ofString "_law_one") = some (some (.ref 531)):=by kernel_rfl
theorem kp_law_one (w:World):keepIn (hd.heap_39 w.params) (.ref 531) = true:=by kernel_rfl
theorem g_law_new (w:World):nsIn (hd.heap_39 w.params) mainGlobals (Str.ofString "_law_new") = some (some (.ref 538)):=by kernel_rfl
theorem kp_law_new (w:World):keepIn (hd.heap_39 w.params) (.ref 538) = true:=by kernel_rfl
theorem g_law_told (w:World):nsIn (hd.heap_39 w.params) mainGlobals (Str.ofString "_law_told") = some (some (.ref 543)):=by kernel_rfl
theorem kp_law_told (w:World):keepIn (hd.heap_39 w.params) (.ref 543) = true:=by kernel_rfl
theorem g_law_value_of (w:World):nsIn (hd.heap_39 w.params) mainGlobals (Str.ofString "_law_value_of") = some (some (.ref 550)):=by kernel_rfl
theorem kp_law_value_of (w:World):keepIn (hd.heap_39 w.params) (.ref 550) = true:=by kernel_rfl
theorem g_law_late (w:World):nsIn (hd.heap_39 w.params) mainGlobals (Str.ofString "_law_late") = some (some (.ref 555)):=by kernel_rfl
theorem kp_law_late (w:World):keepIn (hd.heap_39 w.params) (.ref 555) = true:=by kernel_rfl
theorem g_law_times_set (w:World):nsIn (hd.heap_39 w.params) mainGlobals (Str.ofString "_law_times_set") = some (some (.ref 560)):=by kernel_rfl
theorem kp_law_times_set (w:World):keepIn (hd.heap_39 w.params) (.ref 560) = true:=by kernel_rfl
theorem g_law_due_of (w:World):nsIn (hd.heap_39 w.params) mainGlobals (Str.ofString "_law_due_of") = some (some (.ref 565)):=by kernel_rfl
theorem kp_law_due_of (w:World):keepIn (hd.heap_39 w.params) (.ref 565) = true:=by kernel_rfl
theorem gn_len (w:World):nsIn (hd.heap_39 w.params) mainGlobals (Str.ofString "len") = some none:=by kernel_rfl
theorem gn_range (w:World):nsIn (hd.heap_39 w.params) mainGlobals (Str.ofString "range") = some none:=by kernel_rfl
theorem gn_tuple (w:World):nsIn (hd.heap_39 w.params) mainGlobals (Str.ofString "tuple") = some none:=by kernel_rfl
theorem gn_isinstance (w:World):nsIn (hd.heap_39 w.params) mainGlobals (Str.ofString "isinstance") = some none:=by kernel_rfl
theorem gn_int (w:World):nsIn (hd.heap_39 w.params) mainGlobals (Str.ofString "int") = some none:=by kernel_rfl
theorem gn_bool (w:World):nsIn (hd.heap_39 w.params) mainGlobals (Str.ofString "bool") = some none:=by kernel_rfl
theorem gn_repr (w:World):nsIn (hd.heap_39 w.params) mainGlobals (Str.ofString "repr") = some none:=by kernel_rfl
theorem gn_list (w:World):nsIn (hd.heap_39 w.params) mainGlobals (Str.ofString "list") = some none:=by kernel_rfl
theorem gn_zip (w:World):nsIn (hd.heap_39 w.params) mainGlobals (Str.ofString "zip") = some none:=by kernel_rfl
theorem gn_abs (w:World):nsIn (hd.heap_39 w.params) mainGlobals (Str.ofString "abs") = some none:=by kernel_rfl
theorem gn_sum (w:World):nsIn (hd.heap_39 w.params) mainGlobals (Str.ofString "sum") = some none:=by kernel_rfl
theorem pg_Const (w:World) (x:Str):plainGet (hd.heap_39 w.params) 66 x = true:=by kernel_rfl
theorem hh_Const (w:World):hasDictIn (hd.heap_39 w.params) 66 = true:=by kernel_rfl
theorem fi_Const_value (w:World):findIn (hd.heap_39 w.params) (.ref 66) (Str.ofString "value") = some none:=by kernel_rfl
theorem pg_Local (w:World) (x:Str):plainGet (hd.heap_39 w.params) 85 x = true:=by kernel_rfl
theorem hh_Local (w:World):hasDictIn (hd.heap_39 w.params) 85 = true:=by kernel_rfl
theorem fi_Local_number (w:World):findIn (hd.heap_39 w.params) (.ref 85) (Str.ofString "number") = some none:=by kernel_rfl
theorem pg_Global (w:World) (x:Str):plainGet (hd.heap_39 w.params) 104 x = true:=by kernel_rfl
theorem hh_Global (w:World):hasDictIn (hd.heap_39 w.params) 104 = true:=by kernel_rfl
theorem fi_Global_symbol (w:World):findIn (hd.heap_39 w.params) (.ref 104) (Str.ofString "symbol") = some none:=by kernel_rfl
theorem pg_SetLocal (w:World) (x:Str):plainGet (hd.heap_39 w.params) 137 x = true:=by kernel_rfl
theorem hh_SetLocal (w:World):hasDictIn (hd.heap_39 w.params) 137 = true:=by kernel_rfl
theorem fi_SetLocal_number (w:World):findIn (hd.heap_39 w.params) (.ref 137) (Str.ofString "number") = some none:=by kernel_rfl
theorem fi_SetLocal_value (w:World):findIn (hd.heap_39 w.params) (.ref 137) (Str.ofString "value") = some none:=by kernel_rfl
theorem pg_Lambda (w:World) (x:Str):plainGet (hd.heap_39 w.params) 184 x = true:=by kernel_rfl
theorem hh_Lambda (w:World):hasDictIn (hd.heap_39 w.params) 184 = true:=by kernel_rfl
theorem fi_Lambda_label (w:World):findIn (hd.heap_39 w.params) (.ref 184) (Str.ofString "label") = some none:=by kernel_rfl
theorem fi_Lambda_params (w:World):findIn (hd.heap_39 w.params) (.ref 184) (Str.ofString "params") = some none:=by kernel_rfl
theorem fi_Lambda_rest (w:World):findIn (hd.heap_39 w.params) (.ref 184) (Str.ofString "rest") = some none:=by kernel_rfl
theorem fi_Lambda_body (w:World):findIn (hd.heap_39 w.params) (.ref 184) (Str.ofString "body") = some none:=by kernel_rfl
theorem pg_Call (w:World) (x:Str):plainGet (hd.heap_39 w.params) 217 x = true:=by kernel_rfl
theorem hh_Call (w:World):hasDictIn (hd.heap_39 w.params) 217 = true:=by kernel_rfl
theorem fi_Call_operator (w:World):findIn (hd.heap_39 w.params) (.ref 217) (Str.ofString "operator") = some none:=by kernel_rfl
theorem fi_Call_operands (w:World):findIn (hd.heap_39 w.params) (.ref 217) (Str.ofString "operands") = some none:=by kernel_rfl
theorem pg_Seq (w:World) (x:Str):plainGet (hd.heap_39 w.params) 250 x = true:=by kernel_rfl
theorem hh_Seq (w:World):hasDictIn (hd.heap_39 w.params) 250 = true:=by kernel_rfl
theorem fi_Seq_items (w:World):findIn (hd.heap_39 w.params) (.ref 250) (Str.ofString "items") = some none:=by kernel_rfl
theorem pg_Fix (w:World) (x:Str):plainGet (hd.heap_39 w.params) 283 x = true:=by kernel_rfl
theorem hh_Fix (w:World):hasDictIn (hd.heap_39 w.params) 283 = true:=by kernel_rfl
theorem fi_Fix_numbers (w:World):findIn (hd.heap_39 w.params) (.ref 283) (Str.ofString "numbers") = some none:=by kernel_rfl
theorem fi_Fix_lambdas (w:World):findIn (hd.heap_39 w.params) (.ref 283) (Str.ofString "lambdas") = some none:=by kernel_rfl
theorem fi_Fix_body (w:World):findIn (hd.heap_39 w.params) (.ref 283) (Str.ofString "body") = some none:=by kernel_rfl
theorem pg_Facts (w:World) (x:Str):plainGet (hd.heap_39 w.params) 379 x = true:=by kernel_rfl
theorem hh_Facts (w:World):hasDictIn (hd.heap_39 w.params) 379 = true:=by kernel_rfl
theorem fi_Facts_read (w:World):findIn (hd.heap_39 w.params) (.ref 379) (Str.ofString "read") = some none:=by kernel_rfl
theorem fi_Facts_set (w:World):findIn (hd.heap_39 w.params) (.ref 379) (Str.ofString "set") = some none:=by kernel_rfl
theorem fi_Facts_called (w:World):findIn (hd.heap_39 w.params) (.ref 379) (Str.ofString "called") = some none:=by kernel_rfl
theorem fi_Facts_bound (w:World):findIn (hd.heap_39 w.params) (.ref 379) (Str.ofString "bound") = some none:=by kernel_rfl
theorem fi_Facts_caught (w:World):findIn (hd.heap_39 w.params) (.ref 379) (Str.ofString "caught") = some none:=by kernel_rfl
theorem fi_Facts_parent (w:World):findIn (hd.heap_39 w.params) (.ref 379) (Str.ofString "parent") = some none:=by kernel_rfl
theorem fi_Facts_lets (w:World):findIn (hd.heap_39 w.params) (.ref 379) (Str.ofString "lets") = some none:=by kernel_rfl
theorem fi_Facts_inner (w:World):findIn (hd.heap_39 w.params) (.ref 379) (Str.ofString "inner") = some none:=by kernel_rfl
theorem fi_Facts_read_globals (w:World):findIn (hd.heap_39 w.params) (.ref 379) (Str.ofString "read_globals") = some none:=by kernel_rfl
theorem pg_Fixing (w:World) (x:Str):plainGet (hd.heap_39 w.params) 501 x = true:=by kernel_rfl
theorem hh_Fixing (w:World):hasDictIn (hd.heap_39 w.params) 501 = true:=by kernel_rfl
theorem fi_Fixing_facts (w:World):findIn (hd.heap_39 w.params) (.ref 501) (Str.ofString "facts") = some none:=by kernel_rfl
theorem fk_Const (w:World):findIn (hd.heap_39 w.params) (.ref 66) (Str.ofString "kind") = some (some (.int 0 196)):=by kernel_rfl
theorem sk_Const (w:World):specialIn (hd.heap_39 w.params) (.int 0 196) "__get__" = some none:=by kernel_rfl
theorem fk_Local (w:World):findIn (hd.heap_39 w.params) (.ref 85) (Str.ofString "kind") = some (some (.int 1 198)):=by kernel_rfl
theorem sk_Local (w:World):specialIn (hd.heap_39 w.params) (.int 1 198) "__get__" = some none:=by kernel_rfl
theorem fk_Global (w:World):findIn (hd.heap_39 w.params) (.ref 104) (Str.ofString "kind") = some (some (.int 2 200)):=by kernel_rfl
theorem sk_Global (w:World):specialIn (hd.heap_39 w.params) (.int 2 200) "__get__" = some none:=by kernel_rfl
theorem fk_SetLocal (w:World):findIn (hd.heap_39 w.params) (.ref 137) (Str.ofString "kind") = some (some (.int 3 202)):=by kernel_rfl
theorem sk_SetLocal (w:World):specialIn (hd.heap_39 w.params) (.int 3 202) "__get__" = some none:=by kernel_rfl
theorem fk_Lambda (w:World):findIn (hd.heap_39 w.params) (.ref 184) (Str.ofString "kind") = some (some (.int 7 208)):=by kernel_rfl
theorem sk_Lambda (w:World):specialIn (hd.heap_39 w.params) (.int 7 208) "__get__" = some none:=by kernel_rfl
theorem fk_Call (w:World):findIn (hd.heap_39 w.params) (.ref 217) (Str.ofString "kind") = some (some (.int 8 210)):=by kernel_rfl
theorem sk_Call (w:World):specialIn (hd.heap_39 w.params) (.int 8 210) "__get__" = some none:=by kernel_rfl
theorem fk_Seq (w:World):findIn (hd.heap_39 w.params) (.ref 250) (Str.ofString "kind") = some (some (.int 9 212)):=by kernel_rfl
theorem sk_Seq (w:World):specialIn (hd.heap_39 w.params) (.int 9 212) "__get__" = some none:=by kernel_rfl
theorem fk_Fix (w:World):findIn (hd.heap_39 w.params) (.ref 283) (Str.ofString "kind") = some (some (.int 11 216)):=by kernel_rfl
theorem sk_Fix (w:World):specialIn (hd.heap_39 w.params) (.int 11 216) "__get__" = some none:=by kernel_rfl
section
variable {w:World} {c:Cx} {m:Str→Option Value} {own P P₀:Led} {s:Shared} {E:Value→Shared→Prop} {Q:Value→Shared→Prop} {x:Addr} {ex:Bool}
theorem at_kind {t:T} (S:St w c m own P s) (h:Nd w P₀ x t) (hs:∀ p∈P₀,p∈P) {kd:Int} (hkd:t.kind = kd) (k:∀ s' tk,St w c m own P s'→Q (.int kd tk) s'):wpAny (model rw_pq1024_01.row.prog w) c.A (getAttr (.ref x) (Str.ofString "kind") ex) Q E s:=by
  subst hkd
  cases h
  case cint=>exact gc (pg_Const w _) (hh_Const w) (fk_Const w) (sk_Const w) rfl (by decide +kernel) S (hs _ ‹_›) (hs _ ‹_›) rfl (fun s' S'=>k s' _ S')
  case cun=>exact gc (pg_Const w _) (hh_Const w) (fk_Const w) (sk_Const w) rfl (by decide +kernel) S (hs _ ‹_›) (hs _ ‹_›) rfl (fun s' S'=>k s' _ S')
  case loc=>exact gc (pg_Local w _) (hh_Local w) (fk_Local w) (sk_Local w) rfl (by decide +kernel) S (hs _ ‹_›) (hs _ ‹_›) rfl (fun s' S'=>k s' _ S')
  case glob=>exact gc (pg_Global w _) (hh_Global w) (fk_Global w) (sk_Global w) rfl (by decide +kernel) S (hs _ ‹_›) (hs _ ‹_›) rfl (fun s' S'=>k s' _ S')
  case setl=>exact gc (pg_SetLocal w _) (hh_SetLocal w) (fk_SetLocal w) (sk_SetLocal w) rfl (by decide +kernel) S (hs _ ‹_›) (hs _ ‹_›) rfl (fun s' S'=>k s' _ S')
  case lam=>exact gc (pg_Lambda w _) (hh_Lambda w) (fk_Lambda w) (sk_Lambda w) rfl (by decide +kernel) S (hs _ ‹_›) (hs _ ‹_›) rfl (fun s' S'=>k s' _ S')
  case call=>exact gc (pg_Call w _) (hh_Call w) (fk_Call w) (sk_Call w) rfl (by decide +kernel) S (hs _ ‹_›) (hs _ ‹_›) rfl (fun s' S'=>k s' _ S')
  case seq=>exact gc (pg_Seq w _) (hh_Seq w) (fk_Seq w) (sk_Seq w) rfl (by decide +kernel) S (hs _ ‹_›) (hs _ ‹_›) rfl (fun s' S'=>k s' _ S')
  case fix=>exact gc (pg_Fix w _) (hh_Fix w) (fk_Fix w) (sk_Fix w) rfl (by decide +kernel) S (hs _ ‹_›) (hs _ ‹_›) rfl (fun s' S'=>k s' _ S')
theorem at_cint {i:Fin 8} (S:St w c m own P s) (h:Nd w P₀ x (.cint i)) (hs:∀ p∈P₀,p∈P) (k:∀ s' tk,St w c m own P s'→Q (.int (i.val:Int) tk) s'):wpAny (model rw_pq1024_01.row.prog w) c.A (getAttr (.ref x) (Str.ofString "value") ex) Q E s:=by
  cases h with
  | cint h1 h2=>exact ga (pg_Const w _) (hh_Const w) (fi_Const_value w) S (hs _ h1) (hs _ h2) rfl rfl (fun s' S'=>k s' _ S')
theorem at_cun  (S:St w c m own P s) (h:Nd w P₀ x (.cun)) (hs:∀ p∈P₀,p∈P) (k:∀ s',St w c m own P s'→Q (.ref 427) s'):wpAny (model rw_pq1024_01.row.prog w) c.A (getAttr (.ref x) (Str.ofString "value") ex) Q E s:=by
  cases h with
  | cun h1 h2=>exact ga (pg_Const w _) (hh_Const w) (fi_Const_value w) S (hs _ h1) (hs _ h2) rfl rfl (fun s' S'=>k s' S')
theorem at_loc {n:Int} (S:St w c m own P s) (h:Nd w P₀ x (.loc n)) (hs:∀ p∈P₀,p∈P) (k:∀ s' tk,St w c m own P s'→Q (.int n tk) s'):wpAny (model rw_pq1024_01.row.prog w) c.A (getAttr (.ref x) (Str.ofString "number") ex) Q E s:=by
  cases h with
  | loc h1 h2=>exact ga (pg_Local w _) (hh_Local w) (fi_Local_number w) S (hs _ h1) (hs _ h2) rfl rfl (fun s' S'=>k s' _ S')
theorem at_glob {n:Int} (S:St w c m own P s) (h:Nd w P₀ x (.glob n)) (hs:∀ p∈P₀,p∈P) (k:∀ s' tk,St w c m own P s'→Q (.int n tk) s'):wpAny (model rw_pq1024_01.row.prog w) c.A (getAttr (.ref x) (Str.ofString "symbol") ex) Q E s:=by
  cases h with
  | glob h1 h2=>exact ga (pg_Global w _) (hh_Global w) (fi_Global_symbol w) S (hs _ h1) (hs _ h2) rfl rfl (fun s' S'=>k s' _ S')
theorem at_setl_number {n:Int} {t:T} (S:St w c m own P s) (h:Nd w P₀ x (.setl n t)) (hs:∀ p∈P₀,p∈P) (k:∀ s' tk,St w c m own P s'→Q (.int n tk) s'):wpAny (model rw_pq1024_01.row.prog w) c.A (getAttr (.ref x) (Str.ofString "number") ex) Q E s:=by
  cases h with
  | setl h1 h2 h3=>exact ga (pg_SetLocal w _) (hh_SetLocal w) (fi_SetLocal_number w) S (hs _ h1) (hs _ h2) rfl rfl (fun s' S'=>k s' _ S')
theorem at_setl_value {n:Int} {t:T} (S:St w c m own P s) (h:Nd w P₀ x (.setl n t)) (hs:∀ p∈P₀,p∈P) (k:∀ s' v,St w c m own P s'→Nd w P v t→Q (.ref v) s'):wpAny (model rw_pq1024_01.row.prog w) c.A (getAttr (.ref x) (Str.ofString "value") ex) Q E s:=by
  cases h with
  | setl h1 h2 h3=>exact ga (pg_SetLocal w _) (hh_SetLocal w) (fi_SetLocal_value w) S (hs _ h1) (hs _ h2) rfl rfl (fun s' S'=>k s' _ S' (h3.mono hs))
theorem at_lam_label {l:Int} {ps:List Int} {t:T} (S:St w c m own P s) (h:Nd w P₀ x (.lam l ps t)) (hs:∀ p∈P₀,p∈P) (k:∀ s' tk,St w c m own P s'→Q (.int l tk) s'):wpAny (model rw_pq1024_01.row.prog w) c.A (getAttr (.ref x) (Str.ofString "label") ex) Q E s:=by
  cases h with
  | lam h1 h2 h3 h4 h5=>exact ga (pg_Lambda w _) (hh_Lambda w) (fi_Lambda_label w) S (hs _ h1) (hs _ h2) rfl rfl (fun s' S'=>k s' _ S')
theorem at_lam_params {l:Int} {ps:List Int} {t:T} (S:St w c m own P s) (h:Nd w P₀ x (.lam l ps t)) (hs:∀ p∈P₀,p∈P) (k:∀ s' pl vs e,St w c m own P s'→(pl,listOf (List.toArray vs) e)∈P→IntsAre vs ps→Q (.ref pl) s'):wpAny (model rw_pq1024_01.row.prog w) c.A (getAttr (.ref x) (Str.ofString "params") ex) Q E s:=by
  cases h with
  | lam h1 h2 h3 h4 h5=>exact ga (pg_Lambda w _) (hh_Lambda w) (fi_Lambda_params w) S (hs _ h1) (hs _ h2) rfl rfl (fun s' S'=>k s' _ _ _ S' (hs _ h3) h4)
theorem at_lam_rest {l:Int} {ps:List Int} {t:T} (S:St w c m own P s) (h:Nd w P₀ x (.lam l ps t)) (hs:∀ p∈P₀,p∈P) (k:∀ s' tk,St w c m own P s'→Q (.int (-1) tk) s'):wpAny (model rw_pq1024_01.row.prog w) c.A (getAttr (.ref x) (Str.ofString "rest") ex) Q E s:=by
  cases h with
  | lam h1 h2 h3 h4 h5=>exact ga (pg_Lambda w _) (hh_Lambda w) (fi_Lambda_rest w) S (hs _ h1) (hs _ h2) rfl rfl (fun s' S'=>k s' _ S')
theorem at_lam_body {l:Int} {ps:List Int} {t:T} (S:St w c m own P s) (h:Nd w P₀ x (.lam l ps t)) (hs:∀ p∈P₀,p∈P) (k:∀ s' v,St w c m own P s'→Nd w P v t→Q (.ref v) s'):wpAny (model rw_pq1024_01.row.prog w) c.A (getAttr (.ref x) (Str.ofString "body") ex) Q E s:=by
  cases h with
  | lam h1 h2 h3 h4 h5=>exact ga (pg_Lambda w _) (hh_Lambda w) (fi_Lambda_body w) S (hs _ h1) (hs _ h2) rfl rfl (fun s' S'=>k s' _ S' (h5.mono hs))
theorem at_call_operator {tf:T} {ts:List T} (S:St w c m own P s) (h:Nd w P₀ x (.call tf ts)) (hs:∀ p∈P₀,p∈P) (k:∀ s' v,St w c m own P s'→Nd w P v tf→Q (.ref v) s'):wpAny (model rw_pq1024_01.row.prog w) c.A (getAttr (.ref x) (Str.ofString "operator") ex) Q E s:=by
  cases h with
  | call h1 h2 h3 h4 h5=>exact ga (pg_Call w _) (hh_Call w) (fi_Call_operator w) S (hs _ h1) (hs _ h2) rfl rfl (fun s' S'=>k s' _ S' (h4.mono hs))
theorem at_call_operands {tf:T} {ts:List T} (S:St w c m own P s) (h:Nd w P₀ x (.call tf ts)) (hs:∀ p∈P₀,p∈P) (k:∀ s' l vs e,St w c m own P s'→(l,listOf (List.toArray vs) e)∈P→Nds w P vs ts→Q (.ref l) s'):wpAny (model rw_pq1024_01.row.prog w) c.A (getAttr (.ref x) (Str.ofString "operands") ex) Q E s:=by
  cases h with
  | call h1 h2 h3 h4 h5=>exact ga (pg_Call w _) (hh_Call w) (fi_Call_operands w) S (hs _ h1) (hs _ h2) rfl rfl (fun s' S'=>k s' _ _ _ S' (hs _ h3) (h5.mono hs))
theorem at_seq_items {ts:List T} (S:St w c m own P s) (h:Nd w P₀ x (.seq ts)) (hs:∀ p∈P₀,p∈P) (k:∀ s' l vs e,St w c m own P s'→(l,listOf (List.toArray vs) e)∈P→Nds w P vs ts→Q (.ref l) s'):wpAny (model rw_pq1024_01.row.prog w) c.A (getAttr (.ref x) (Str.ofString "items") ex) Q E s:=by
  cases h with
  | seq h1 h2 h3 h4=>exact ga (pg_Seq w _) (hh_Seq w) (fi_Seq_items w) S (hs _ h1) (hs _ h2) rfl rfl (fun s' S'=>k s' _ _ _ S' (hs _ h3) (h4.mono hs))
theorem at_fix_numbers {ns:List Int} {ts:List T} {tb:T} (S:St w c m own P s) (h:Nd w P₀ x (.fix ns ts tb)) (hs:∀ p∈P₀,p∈P) (k:∀ s' l vs e,St w c m own P s'→(l,listOf (List.toArray vs) e)∈P→IntsAre vs ns→Q (.ref l) s'):wpAny (model rw_pq1024_01.row.prog w) c.A (getAttr (.ref x) (Str.ofString "numbers") ex) Q E s:=by
  cases h with
  | fix h1 h2 h3 h4 h5 h6 h7=>exact ga (pg_Fix w _) (hh_Fix w) (fi_Fix_numbers w) S (hs _ h1) (hs _ h2) rfl rfl (fun s' S'=>k s' _ _ _ S' (hs _ h3) h4)
theorem at_fix_lambdas {ns:List Int} {ts:List T} {tb:T} (S:St w c m own P s) (h:Nd w P₀ x (.fix ns ts tb)) (hs:∀ p∈P₀,p∈P) (k:∀ s' l vs e,St w c m own P s'→(l,listOf (List.toArray vs) e)∈P→Nds w P vs ts→Q (.ref l) s'):wpAny (model rw_pq1024_01.row.prog w) c.A (getAttr (.ref x) (Str.ofString "lambdas") ex) Q E s:=by
  cases h with
  | fix h1 h2 h3 h4 h5 h6 h7=>exact ga (pg_Fix w _) (hh_Fix w) (fi_Fix_lambdas w) S (hs _ h1) (hs _ h2) rfl rfl (fun s' S'=>k s' _ _ _ S' (hs _ h5) (h6.mono hs))
theorem at_fix_body {ns:List Int} {ts:List T} {tb:T} (S:St w c m own P s) (h:Nd w P₀ x (.fix ns ts tb)) (hs:∀ p∈P₀,p∈P) (k:∀ s' v,St w c m own P s'→Nd w P v tb→Q (.ref v) s'):wpAny (model rw_pq1024_01.row.prog w) c.A (getAttr (.ref x) (Str.ofString "body") ex) Q E s:=by
  cases h with
  | fix h1 h2 h3 h4 h5 h6 h7=>exact ga (pg_Fix w _) (hh_Fix w) (fi_Fix_body w) S (hs _ h1) (hs _ h2) rfl rfl (fun s' S'=>k s' _ S' (h7.mono hs))
end
end
section
open PySem.Calls
section
variable {w:World} {c:Cx} {m:Str→Option Value} {own P:Led} {s:Shared} {E:Value→Shared→Prop}
theorem sa {x C dx:Addr} {es:List DictEntry} {n:Nat} {name:String} {v:Value} {Q:Unit→Shared→Prop}
    (hs:findIn (hd.heap_39 w.params) (.ref C) "__setattr__" = some (some (.builtin "object.__setattr__"))) (hp:plainOver (hd.heap_39 w.params) C = true) (ht:takerIn (hd.heap_39 w.params) C (Str.ofString name) = some none) (hh:hasDictIn (hd.heap_39 w.params) C = true)
    (S:St w c m ((dx,dictOf es n)::own) P s) (hx:(x,instObj C dx)∈P) (hl:(getL (Str.ofString name) es).isSome = true) (hput:∀ hsh k v,putL (Str.ofString name) hsh k v es = es ++ [⟨hsh,k,v⟩]) (hn:putN (Str.ofString name) es n = n + 1) (hz:es.length≤900)
    (h:∀ s' tk,St w c m ((dx,dictOf (es ++ [ent w name tk v]) (n + 1))::own) P s'→Q () s'):wpAny (model rw_pq1024_01.row.prog w) c.A (setAttr (.ref x) (Str.ofString name) v) Q E s:=by
  refine set_dict (news:=(dx,dictOf es n)::(own ++ P)) (news':=(dx,dictOf (es ++ [ent w name (s.toks + 1) v]) (n + 1))::(own ++ P)) S.F S.X S.N (I:=⟨S.inP hx,rfl,rfl,S.inO (.head _)⟩) rfl hs hp ht hh hl (by rw [hput,hn]) (.head fun p hp=>?_) (by rw [List.length_append];exact Nat.le_trans (Nat.add_le_add_right hz _) (show 900 + 1≤1000 by decide)) fun h' F' N'=>h _ _ (S.same F' N' (fun q hq p hp=>?_) S.nd)
  · rcases List.mem_append.mp hp with hp | hp
    · exact fun e=>(List.nodup_cons.mp S.nd).1 (List.mem_map.mpr ⟨p,hp,e⟩)
    · exact S.ap _ (.head _) p hp
  · rcases List.mem_cons.mp hq with rfl | hq
    · exact S.ap _ (List.mem_cons_self (a:=(dx,dictOf es n))) p hp
    · exact S.ap q (.tail _ hq) p hp
theorem make {C fI:Addr} {args:List Value} {Q:Value→Shared→Prop} {name qual:Str} {params:Arguments} {body:List Stmt} {ns:List (Str × NameKind)} {mo:List (Str × Const)} {dV kV doc pm cdv ct oc:Value} {an od:Option Addr} {osl:Array (Option Value)} {K:Frag} {Out:Led→Led→Value→Prop}
    (hK:K = hd.heap_39 w.params) (hm:makesIn K C = true) (hi:findIn K (.ref C) "__init__" = some (some (.ref fI))) (hf:isFn K (.ref fI) = true)
    (ho:K.lookup fI = some ⟨oc,od,.func (fnOf name qual params body (fnSc ns mo) dV kV doc pm an cdv ct),osl⟩) (hcd:codeIn K cdv qual = true)
    (S:St w c m own P s) (hroom:c.A.depth + 1 < recursionLimit)
    (hbind:∀ x (s:Shared),BindsTo s (fnOf name qual params body (fnSc ns mo) dV kV doc pm an cdv ct) ⟨.ref x::args,[]⟩ ((params.args.map (·.arg)).zip (.ref x::args))) (hlen:(params.args.map (·.arg)).length = args.length + 1) (hgood:goodFn ns (params.args.map (·.arg)) = true)
    (h:∀ c' s' x dx,goodNs ns = true→c'.A.depth = c.A.depth + 2→c'.A.units≤c.A.units + 8→St w c' (asg ns (some (.ref x)::args.map some)) [(dx,dictOf [] 0)] ((x,instObj C dx)::P) s' →
      wpAny (model rw_pq1024_01.row.prog w) c'.A (execs body (envX qual (fnSc ns mo) c'.L fI cdv [])) (fun fl s''=>Ends w c' ((x,instObj C dx)::P) (fun cs P' r=>r = .none∧cs.map (·.1) = [dx]∧Out cs P' (.ref x)) (match fl with | .ret v=>v | _=>.none) s'') (fun _ _=>False) s')
    (ret:∀ x cells P' s',St w c m (cells ++ own) P' s'→(∀ p∈P,p∈P')→Out cells P' (.ref x)→Q (.ref x) s') :
    wpAny (model rw_pq1024_01.row.prog w) c.A (call (.ref C) args) Q E s:=by
  subst hK
  refine call_cls S.F S.X S.N hm hi hf fun x dx h' F' N' l1 l2=>?_
  let c2:Cx:={ c with A:=c.A.under (.builtin "type.__call__" ⟨.ref C::args,[]⟩) }
  have S2:St w c2 m ([(dx,dictOf [] 0)] ++ own) ((x,instObj C dx)::P) { s with heap:=h' }:=by
    refine ⟨F',fun p hp=>N' p ?_,fun q hq p hp=>?_,?_,S.X,S.T,⟨S.B.stack,S.B.stays,S.B.frames⟩,S.hh,S.fr,S.eg,S.ed,S.eo⟩
    · rcases List.mem_append.mp hp with hp | hp
      · rcases List.mem_cons.mp hp with rfl | hp
        · exact .tail _ (.head _)
        · exact .tail _ (.tail _ (List.mem_append_left _ hp))
      · rcases List.mem_cons.mp hp with rfl | hp
        · exact .head _
        · exact .tail _ (.tail _ (List.mem_append_right _ hp))
    · rcases List.mem_cons.mp hp with rfl | hp
      · rcases List.mem_cons.mp hq with rfl | hq
        · exact fun e=>Nat.lt_irrefl dx (by have e':x = dx:=e;rw [e'] at l2;exact l2)
        · have:=Nat.lt_trans (l1 q (List.mem_append_left _ hq)) l2
          exact fun e=>by have e':x = q.1:=e;rw [← e'] at this;exact Nat.lt_irrefl _ this
      · rcases List.mem_cons.mp hq with rfl | hq
        · have:=l1 p (List.mem_append_right _ hp)
          exact fun e=>by have e':p.1 = dx:=e;rw [e'] at this;exact Nat.lt_irrefl _ this
        · exact S.ap q hq p hp
    · refine List.nodup_cons.mpr ⟨fun hm=>?_,S.nd⟩
      refine ex1 (List.mem_map.mp hm) ?_;intro q hy1;refine an2 hy1 ?_;clear hy1;intro hq e
      have:=l1 q (List.mem_append_left _ hq)
      rw [e] at this
      exact Nat.lt_irrefl _ this
  have key:=enterM (c:=c2) (m:=m) (cells:=[(dx,dictOf [] 0)]) (rest:=own) (P:=(x,instObj C dx)::P) (s:={ s with heap:=h' }) (Q:=fun v s'=>v = .none∧Q (.ref x) s') (E:=E) (vs:=.ref x::args) (Out:=fun cs P' r=>r = .none∧Out cs P' (.ref x)) rfl S2 ho hcd hroom (hbind x _) (by rw [hlen];rfl) hgood
    (fun c' s' h0 h1 h2 S'=>wpAny_mono (h c' s' x dx h0 (by rw [h1];rfl) (by rw [h2];have:c2.A.units = c.A.units + 1:=units_under_make _ _ _;omega) S') (fun fl s'' hfin=>?_) fun _ _ e=>e) (fun r cells' P' s' S' hc hs ho=>?_)
  · refine codeAny_mono key fun r s' z=>?_
    rcases r with e | (v | _ | _ | _) <;> first | exact z | exact z.elim
  · refine ex4 hfin ?_;clear hfin;intro m' cells' own' P' hy2;refine an5 hy2 ?_;clear hy2;intro S3 hs hr hc ho
    exact mk4 m' cells' own' P' ⟨S3,hs,hc,hr,ho⟩
  · exact ⟨ho.1,ret x cells' P' s' ⟨S'.F,S'.N,S'.ap,S'.nd,S'.X,S'.T,⟨S.B.stack,S.B.stays,S.B.frames⟩,S.hh,S.fr,S'.eg,S'.ed,S'.eo⟩ (fun p hp=>hs p (.tail _ hp)) ho.2⟩
end
end
section
open PySem.Calls
theorem filler:rw_pq1024_01 = rw_pq1024_01∧∀ w:World,hd.heap_39 w.params = hd.heap_39 w.params:=by
  k_fill
  exact ⟨rfl,fun _=>rfl⟩
theorem tk_Const_value (w:World):takerIn (hd.heap_39 w.params) 66 (Str.ofString "value") = some none:=by kernel_rfl
theorem sat_Const (w:World):findIn (hd.heap_39 w.params) (.ref 66) "__setattr__" = some (some (.builtin "object.__setattr__")):=by kernel_rfl
theorem po_Const (w:World):plainOver (hd.heap_39 w.params) 66 = true:=by kernel_rfl
theorem c_Const {w:World} {P:Led} {v0:Value}:Pure w 3 P (call (.ref 66) [v0]) fun P' r=>∃ x d t0,r = .ref x∧(x,instObj 66 d)∈P'∧(d,dictOf [ent w "value" t0 v0] 1)∈P':=by
  intro c m own s Q E S hdp hu ret
  have X:=S.X
  refine make (Out:=fun cells P' r=>∃ x d t0,r = .ref x∧(x,instObj 66 d)∈P'∧cells = [(d,dictOf [ent w "value" t0 v0] 1)]) (K:=hd.heap_39 w.params) rfl (by k_is) (by k_is) (by k_is) (by k_is) (by k_is) S (by lia) (by exact fun x s=>BindsTo.of_eq rfl) (by exact rfl) (by kernel_rfl) ?_ ?kr
  case kr =>
    intro x cells P' s' S' hs hx1
    refine ex3 hx1 ?_;clear hx1;intro y d t0 hy3;refine an3 hy3 ?_;clear hy3;intro e hm hx2
    subst hx2
    cases e
    exact ret _ _ _ (St.settle S') (fun p hp=>.tail _ (hs p hp)) (mk3 _ _ _ ⟨rfl,.tail _ hm,.head _⟩)
  intro c' s' x dx gN _ _ S'
  dsimp only [List.map] at S'
  with_reducible (refine wpAny_execs_cons ?_;refine plainObj_wpAny_Assign_Attribute ?_ (by k_dflt rfl);refine ev_lv ‹_› ‹_› LocV.a1 ?_;refine ev_lv ‹_› ‹_› LocV.a0 ?_)
  refine sa (sat_Const w) (po_Const w) (tk_Const_value w) (hh_Const w) ‹_› (.head _) rfl (fun _ _ _=>rfl) rfl (Nat.le_of_ble_eq_true rfl) ?_
  intro s0 tk0 S0
  dsimp only
  with_reducible (refine wpAny_execs_nil ?_)
  exact mk4 _ _ [] _ ⟨S0,fun p hp=>hp,rfl,rfl,_,_,_,rfl,.head _,rfl⟩
theorem tk_Local_number (w:World):takerIn (hd.heap_39 w.params) 85 (Str.ofString "number") = some none:=by kernel_rfl
theorem sat_Local (w:World):findIn (hd.heap_39 w.params) (.ref 85) "__setattr__" = some (some (.builtin "object.__setattr__")):=by kernel_rfl
theorem po_Local (w:World):plainOver (hd.heap_39 w.params) 85 = true:=by kernel_rfl
theorem c_Local {w:World} {P:Led} {v0:Value}:Pure w 3 P (call (.ref 85) [v0]) fun P' r=>∃ x d t0,r = .ref x∧(x,instObj 85 d)∈P'∧(d,dictOf [ent w "number" t0 v0] 1)∈P':=by
  intro c m own s Q E S hdp hu ret
  have X:=S.X
  refine make (Out:=fun cells P' r=>∃ x d t0,r = .ref x∧(x,instObj 85 d)∈P'∧cells = [(d,dictOf [ent w "number" t0 v0] 1)]) (K:=hd.heap_39 w.params) rfl (by k_is) (by k_is) (by k_is) (by k_is) (by k_is) S (by lia) (by exact fun x s=>BindsTo.of_eq rfl) (by exact rfl) (by kernel_rfl) ?_ ?kr
  case kr =>
    intro x cells P' s' S' hs hx4
    refine ex3 hx4 ?_;clear hx4;intro y d t0 hy6;refine an3 hy6 ?_;clear hy6;intro e hm hx5
    subst hx5
    cases e
    exact ret _ _ _ (St.settle S') (fun p hp=>.tail _ (hs p hp)) (mk3 _ _ _ ⟨rfl,.tail _ hm,.head _⟩)
  intro c' s' x dx gN _ _ S'
  dsimp only [List.map] at S'
  with_reducible (refine wpAny_execs_cons ?_;refine plainObj_wpAny_Assign_Attribute ?_ (by k_dflt rfl);refine ev_lv ‹_› ‹_› LocV.a1 ?_;refine ev_lv ‹_› ‹_› LocV.a0 ?_)
  refine sa (sat_Local w) (po_Local w) (tk_Local_number w) (hh_Local w) ‹_› (.head _) rfl (fun _ _ _=>rfl) rfl (Nat.le_of_ble_eq_true rfl) ?_
  intro s0 tk0 S0
  dsimp only
  with_reducible (refine wpAny_execs_nil ?_)
  exact mk4 _ _ [] _ ⟨S0,fun p hp=>hp,rfl,rfl,_,_,_,rfl,.head _,rfl⟩
theorem tk_Global_symbol (w:World):takerIn (hd.heap_39 w.params) 104 (Str.ofString "symbol") = some none:=by kernel_rfl
theorem sat_Global (w:World):findIn (hd.heap_39 w.params) (.ref 104) "__setattr__" = some (some (.builtin "object.__setattr__")):=by kernel_rfl
theorem po_Global (w:World):plainOver (hd.heap_39 w.params) 104 = true:=by kernel_rfl
theorem c_Global {w:World} {P:Led} {v0:Value}:Pure w 3 P (call (.ref 104) [v0]) fun P' r=>∃ x d t0,r = .ref x∧(x,instObj 104 d)∈P'∧(d,dictOf [ent w "symbol" t0 v0] 1)∈P':=by
  intro c m own s Q E S hdp hu ret
  have X:=S.X
  refine make (Out:=fun cells P' r=>∃ x d t0,r = .ref x∧(x,instObj 104 d)∈P'∧cells = [(d,dictOf [ent w "symbol" t0 v0] 1)]) (K:=hd.heap_39 w.params) rfl (by k_is) (by k_is) (by k_is) (by k_is) (by k_is) S (by lia) (by exact fun x s=>BindsTo.of_eq rfl) (by exact rfl) (by kernel_rfl) ?_ ?kr
  case kr =>
    intro x cells P' s' S' hs hx7
    refine ex3 hx7 ?_;clear hx7;intro y d t0 hy9;refine an3 hy9 ?_;clear hy9;intro e hm hx8
    subst hx8
    cases e
    exact ret _ _ _ (St.settle S') (fun p hp=>.tail _ (hs p hp)) (mk3 _ _ _ ⟨rfl,.tail _ hm,.head _⟩)
  intro c' s' x dx gN _ _ S'
  dsimp only [List.map] at S'
  with_reducible (refine wpAny_execs_cons ?_;refine plainObj_wpAny_Assign_Attribute ?_ (by k_dflt rfl);refine ev_lv ‹_› ‹_› LocV.a1 ?_;refine ev_lv ‹_› ‹_› LocV.a0 ?_)
  refine sa (sat_Global w) (po_Global w) (tk_Global_symbol w) (hh_Global w) ‹_› (.head _) rfl (fun _ _ _=>rfl) rfl (Nat.le_of_ble_eq_true rfl) ?_
  intro s0 tk0 S0
  dsimp only
  with_reducible (refine wpAny_execs_nil ?_)
  exact mk4 _ _ [] _ ⟨S0,fun p hp=>hp,rfl,rfl,_,_,_,rfl,.head _,rfl⟩
theorem tk_SetLocal_number (w:World):takerIn (hd.heap_39 w.params) 137 (Str.ofString "number") = some none:=by kernel_rfl
theorem tk_SetLocal_value (w:World):takerIn (hd.heap_39 w.params) 137 (Str.ofString "value") = some none:=by kernel_rfl
theorem sat_SetLocal (w:World):findIn (hd.heap_39 w.params) (.ref 137) "__setattr__" = some (some (.builtin "object.__setattr__")):=by kernel_rfl
theorem po_SetLocal (w:World):plainOver (hd.heap_39 w.params) 137 = true:=by kernel_rfl
theorem c_SetLocal {w:World} {P:Led} {v0 v1:Value}:Pure w 3 P (call (.ref 137) [v0,v1]) fun P' r=>∃ x d t0 t1,r = .ref x∧(x,instObj 137 d)∈P'∧(d,dictOf [ent w "number" t0 v0,ent w "value" t1 v1] 2)∈P':=by
  intro c m own s Q E S hdp hu ret
  have X:=S.X
  refine make (Out:=fun cells P' r=>∃ x d t0 t1,r = .ref x∧(x,instObj 137 d)∈P'∧cells = [(d,dictOf [ent w "number" t0 v0,ent w "value" t1 v1] 2)]) (K:=hd.heap_39 w.params) rfl (by k_is) (by k_is) (by k_is) (by k_is) (by k_is) S (by lia) (by exact fun x s=>BindsTo.of_eq rfl) (by exact rfl) (by kernel_rfl) ?_ ?kr
  case kr =>
    intro x cells P' s' S' hs hx10
    refine ex4 hx10 ?_;clear hx10;intro y d t0 t1 hy12;refine an3 hy12 ?_;clear hy12;intro e hm hx11
    subst hx11
    cases e
    exact ret _ _ _ (St.settle S') (fun p hp=>.tail _ (hs p hp)) (mk4 _ _ _ _ ⟨rfl,.tail _ hm,.head _⟩)
  intro c' s' x dx gN _ _ S'
  dsimp only [List.map] at S'
  with_reducible (refine wpAny_execs_cons ?_;refine plainObj_wpAny_Assign_Attribute ?_ (by k_dflt rfl);refine ev_lv ‹_› ‹_› LocV.a1 ?_;refine ev_lv ‹_› ‹_› LocV.a0 ?_)
  refine sa (sat_SetLocal w) (po_SetLocal w) (tk_SetLocal_number w) (hh_SetLocal w) ‹_› (.head _) rfl (fun _ _ _=>rfl) rfl (Nat.le_of_ble_eq_true rfl) ?_
  intro s0 tk0 S0
  dsimp only
  with_reducible (refine wpAny_execs_cons ?_;refine plainObj_wpAny_Assign_Attribute ?_ (by k_dflt rfl);refine ev_lv ‹_› ‹_› LocV.a2 ?_;refine ev_lv ‹_› ‹_› LocV.a0 ?_)
  refine sa (sat_SetLocal w) (po_SetLocal w) (tk_SetLocal_value w) (hh_SetLocal w) ‹_› (.head _) rfl (fun _ _ _=>rfl) rfl (Nat.le_of_ble_eq_true rfl) ?_
  intro s1 tk1 S1
  dsimp only
  with_reducible (refine wpAny_execs_nil ?_)
  exact mk4 _ _ [] _ ⟨S1,fun p hp=>hp,rfl,rfl,_,_,_,_,rfl,.head _,rfl⟩
theorem tk_Lambda_label (w:World):takerIn (hd.heap_39 w.params) 184 (Str.ofString "label") = some none:=by kernel_rfl
theorem tk_Lambda_params (w:World):takerIn (hd.heap_39 w.params) 184 (Str.ofString "params") = some none:=by kernel_rfl
theorem tk_Lambda_rest (w:World):takerIn (hd.heap_39 w.params) 184 (Str.ofString "rest") = some none:=by kernel_rfl
theorem tk_Lambda_body (w:World):takerIn (hd.heap_39 w.params) 184 (Str.ofString "body") = some none:=by kernel_rfl
theorem sat_Lambda (w:World):findIn (hd.heap_39 w.params) (.ref 184) "__setattr__" = some (some (.builtin "object.__setattr__")):=by kernel_rfl
theorem po_Lambda (w:World):plainOver (hd.heap_39 w.params) 184 = true:=by kernel_rfl
theorem c_Lambda {w:World} {P:Led} {v0 v1 v2 v3:Value}:Pure w 3 P (call (.ref 184) [v0,v1,v2,v3]) fun P' r=>∃ x d t0 t1 t2 t3,r = .ref x∧(x,instObj 184 d)∈P'∧(d,dictOf [ent w "label" t0 v0,ent w "params" t1 v1,ent w "rest" t2 v2,ent w "body" t3 v3] 4)∈P':=by
  intro c m own s Q E S hdp hu ret
  have X:=S.X
  refine make (Out:=fun cells P' r=>∃ x d t0 t1 t2 t3,r = .ref x∧(x,instObj 184 d)∈P'∧cells = [(d,dictOf [ent w "label" t0 v0,ent w "params" t1 v1,ent w "rest" t2 v2,ent w "body" t3 v3] 4)]) (K:=hd.heap_39 w.params) rfl (by k_is) (by k_is) (by k_is) (by k_is) (by k_is) S (by lia) (by exact fun x s=>BindsTo.of_eq rfl) (by exact rfl) (by kernel_rfl) ?_ ?kr
  case kr =>
    intro x cells P' s' S' hs hx13
    refine ex6 hx13 ?_;clear hx13;intro y d t0 t1 t2 t3 hy15;refine an3 hy15 ?_;clear hy15;intro e hm hx14
    subst hx14
    cases e
    exact ret _ _ _ (St.settle S') (fun p hp=>.tail _ (hs p hp)) (mk6 _ _ _ _ _ _ ⟨rfl,.tail _ hm,.head _⟩)
  intro c' s' x dx gN _ _ S'
  dsimp only [List.map] at S'
  with_reducible (refine wpAny_execs_cons ?_;refine plainObj_wpAny_Assign_Attribute ?_ (by k_dflt rfl);refine ev_lv ‹_› ‹_› LocV.a1 ?_;refine ev_lv ‹_› ‹_› LocV.a0 ?_)
  refine sa (sat_Lambda w) (po_Lambda w) (tk_Lambda_label w) (hh_Lambda w) ‹_› (.head _) rfl (fun _ _ _=>rfl) rfl (Nat.le_of_ble_eq_true rfl) ?_
  intro s0 tk0 S0
  dsimp only
  with_reducible (refine wpAny_execs_cons ?_;refine plainObj_wpAny_Assign_Attribute ?_ (by k_dflt rfl);refine ev_lv ‹_› ‹_› LocV.a2 ?_;refine ev_lv ‹_› ‹_› LocV.a0 ?_)
  refine sa (sat_Lambda w) (po_Lambda w) (tk_Lambda_params w) (hh_Lambda w) ‹_› (.head _) rfl (fun _ _ _=>rfl) rfl (Nat.le_of_ble_eq_true rfl) ?_
  intro s1 tk1 S1
  dsimp only
  with_reducible (refine wpAny_execs_cons ?_;refine plainObj_wpAny_Assign_Attribute ?_ (by k_dflt rfl);refine ev_lv ‹_› ‹_› LocV.a3 ?_;refine ev_lv ‹_› ‹_› LocV.a0 ?_)
  refine sa (sat_Lambda w) (po_Lambda w) (tk_Lambda_rest w) (hh_Lambda w) ‹_› (.head _) rfl (fun _ _ _=>rfl) rfl (Nat.le_of_ble_eq_true rfl) ?_
  intro s2 tk2 S2
  dsimp only
  with_reducible (refine wpAny_execs_cons ?_;refine plainObj_wpAny_Assign_Attribute ?_ (by k_dflt rfl);refine ev_lv ‹_› ‹_› LocV.a4 ?_;refine ev_lv ‹_› ‹_› LocV.a0 ?_)
  refine sa (sat_Lambda w) (po_Lambda w) (tk_Lambda_body w) (hh_Lambda w) ‹_› (.head _) rfl (fun _ _ _=>rfl) rfl (Nat.le_of_ble_eq_true rfl) ?_
  intro s3 tk3 S3
  dsimp only
  with_reducible (refine wpAny_execs_nil ?_)
  exact mk4 _ _ [] _ ⟨S3,fun p hp=>hp,rfl,rfl,_,_,_,_,_,_,rfl,.head _,rfl⟩
theorem tk_Call_operator (w:World):takerIn (hd.heap_39 w.params) 217 (Str.ofString "operator") = some none:=by kernel_rfl
theorem tk_Call_operands (w:World):takerIn (hd.heap_39 w.params) 217 (Str.ofString "operands") = some none:=by kernel_rfl
theorem sat_Call (w:World):findIn (hd.heap_39 w.params) (.ref 217) "__setattr__" = some (some (.builtin "object.__setattr__")):=by kernel_rfl
theorem po_Call (w:World):plainOver (hd.heap_39 w.params) 217 = true:=by kernel_rfl
theorem c_Call {w:World} {P:Led} {v0 v1:Value}:Pure w 3 P (call (.ref 217) [v0,v1]) fun P' r=>∃ x d t0 t1,r = .ref x∧(x,instObj 217 d)∈P'∧(d,dictOf [ent w "operator" t0 v0,ent w "operands" t1 v1] 2)∈P':=by
  intro c m own s Q E S hdp hu ret
  have X:=S.X
  refine make (Out:=fun cells P' r=>∃ x d t0 t1,r = .ref x∧(x,instObj 217 d)∈P'∧cells = [(d,dictOf [ent w "operator" t0 v0,ent w "operands" t1 v1] 2)]) (K:=hd.heap_39 w.params) rfl (by k_is) (by k_is) (by k_is) (by k_is) (by k_is) S (by lia) (by exact fun x s=>BindsTo.of_eq rfl) (by exact rfl) (by kernel_rfl) ?_ ?kr
  case kr =>
    intro x cells P' s' S' hs hx16
    refine ex4 hx16 ?_;clear hx16;intro y d t0 t1 hy18;refine an3 hy18 ?_;clear hy18;intro e hm hx17
    subst hx17
    cases e
    exact ret _ _ _ (St.settle S') (fun p hp=>.tail _ (hs p hp)) (mk4 _ _ _ _ ⟨rfl,.tail _ hm,.head _⟩)
  intro c' s' x dx gN _ _ S'
  dsimp only [List.map] at S'
  with_reducible (refine wpAny_execs_cons ?_;refine plainObj_wpAny_Assign_Attribute ?_ (by k_dflt rfl);refine ev_lv ‹_› ‹_› LocV.a1 ?_;refine ev_lv ‹_› ‹_› LocV.a0 ?_)
  refine sa (sat_Call w) (po_Call w) (tk_Call_operator w) (hh_Call w) ‹_› (.head _) rfl (fun _ _ _=>rfl) rfl (Nat.le_of_ble_eq_true rfl) ?_
  intro s0 tk0 S0
  dsimp only
  with_reducible (refine wpAny_execs_cons ?_;refine plainObj_wpAny_Assign_Attribute ?_ (by k_dflt rfl);refine ev_lv ‹_› ‹_› LocV.a2 ?_;refine ev_lv ‹_› ‹_› LocV.a0 ?_)
  refine sa (sat_Call w) (po_Call w) (tk_Call_operands w) (hh_Call w) ‹_› (.head _) rfl (fun _ _ _=>rfl) rfl (Nat.le_of_ble_eq_true rfl) ?_
  intro s1 tk1 S1
  dsimp only
  with_reducible (refine wpAny_execs_nil ?_)
  exact mk4 _ _ [] _ ⟨S1,fun p hp=>hp,rfl,rfl,_,_,_,_,rfl,.head _,rfl⟩
theorem tk_Seq_items (w:World):takerIn (hd.heap_39 w.params) 250 (Str.ofString "items") = some none:=by kernel_rfl
theorem sat_Seq (w:World):findIn (hd.heap_39 w.params) (.ref 250) "__setattr__" = some (some (.builtin "object.__setattr__")):=by kernel_rfl
theorem po_Seq (w:World):plainOver (hd.heap_39 w.params) 250 = true:=by kernel_rfl
theorem c_Seq {w:World} {P:Led} {v0:Value}:Pure w 3 P (call (.ref 250) [v0]) fun P' r=>∃ x d t0,r = .ref x∧(x,instObj 250 d)∈P'∧(d,dictOf [ent w "items" t0 v0] 1)∈P':=by
  intro c m own s Q E S hdp hu ret
  have X:=S.X
  refine make (Out:=fun cells P' r=>∃ x d t0,r = .ref x∧(x,instObj 250 d)∈P'∧cells = [(d,dictOf [ent w "items" t0 v0] 1)]) (K:=hd.heap_39 w.params) rfl (by k_is) (by k_is) (by k_is) (by k_is) (by k_is) S (by lia) (by exact fun x s=>BindsTo.of_eq rfl) (by exact rfl) (by kernel_rfl) ?_ ?kr
  case kr =>
    intro x cells P' s' S' hs hx19
    refine ex3 hx19 ?_;clear hx19;intro y d t0 hy21;refine an3 hy21 ?_;clear hy21;intro e hm hx20
    subst hx20
    cases e
    exact ret _ _ _ (St.settle S') (fun p hp=>.tail _ (hs p hp)) (mk3 _ _ _ ⟨rfl,.tail _ hm,.head _⟩)
  intro c' s' x dx gN _ _ S'
  dsimp only [List.map] at S'
  with_reducible (refine wpAny_execs_cons ?_;refine plainObj_wpAny_Assign_Attribute ?_ (by k_dflt rfl);refine ev_lv ‹_› ‹_› LocV.a1 ?_;refine ev_lv ‹_› ‹_› LocV.a0 ?_)
  refine sa (sat_Seq w) (po_Seq w) (tk_Seq_items w) (hh_Seq w) ‹_› (.head _) rfl (fun _ _ _=>rfl) rfl (Nat.le_of_ble_eq_true rfl) ?_
  intro s0 tk0 S0
  dsimp only
  with_reducible (refine wpAny_execs_nil ?_)
  exact mk4 _ _ [] _ ⟨S0,fun p hp=>hp,rfl,rfl,_,_,_,rfl,.head _,rfl⟩
theorem tk_Fix_numbers (w:World):takerIn (hd.heap_39 w.params) 283 (Str.ofString "numbers") = some none:=by kernel_rfl
theorem tk_Fix_lambdas (w:World):takerIn (hd.heap_39 w.params) 283 (Str.ofString "lambdas") = some none:=by kernel_rfl
theorem tk_Fix_body (w:World):takerIn (hd.heap_39 w.params) 283 (Str.ofString "body") = some none:=by kernel_rfl
theorem sat_Fix (w:World):findIn (hd.heap_39 w.params) (.ref 283) "__setattr__" = some (some (.builtin "object.__setattr__")):=by kernel_rfl
theorem po_Fix (w:World):plainOver (hd.heap_39 w.params) 283 = true:=by kernel_rfl
theorem c_Fix {w:World} {P:Led} {v0 v1 v2:Value}:Pure w 3 P (call (.ref 283) [v0,v1,v2]) fun P' r=>∃ x d t0 t1 t2,r = .ref x∧(x,instObj 283 d)∈P'∧(d,dictOf [ent w "numbers" t0 v0,ent w "lambdas" t1 v1,ent w "body" t2 v2] 3)∈P':=by
  intro c m own s Q E S hdp hu ret
  have X:=S.X
  refine make (Out:=fun cells P' r=>∃ x d t0 t1 t2,r = .ref x∧(x,instObj 283 d)∈P'∧cells = [(d,dictOf [ent w "numbers" t0 v0,ent w "lambdas" t1 v1,ent w "body" t2 v2] 3)]) (K:=hd.heap_39 w.params) rfl (by k_is) (by k_is) (by k_is) (by k_is) (by k_is) S (by lia) (by exact fun x s=>BindsTo.of_eq rfl) (by exact rfl) (by kernel_rfl) ?_ ?kr
  case kr =>
    intro x cells P' s' S' hs hx22
    refine ex5 hx22 ?_;clear hx22;intro y d t0 t1 t2 hy24;refine an3 hy24 ?_;clear hy24;intro e hm hx23
    subst hx23
    cases e
    exact ret _ _ _ (St.settle S') (fun p hp=>.tail _ (hs p hp)) (mk5 _ _ _ _ _ ⟨rfl,.tail _ hm,.head _⟩)
  intro c' s' x dx gN _ _ S'
  dsimp only [List.map] at S'
  with_reducible (refine wpAny_execs_cons ?_;refine plainObj_wpAny_Assign_Attribute ?_ (by k_dflt rfl);refine ev_lv ‹_› ‹_› LocV.a1 ?_;refine ev_lv ‹_› ‹_› LocV.a0 ?_)
  refine sa (sat_Fix w) (po_Fix w) (tk_Fix_numbers w) (hh_Fix w) ‹_› (.head _) rfl (fun _ _ _=>rfl) rfl (Nat.le_of_ble_eq_true rfl) ?_
  intro s0 tk0 S0
  dsimp only
  with_reducible (refine wpAny_execs_cons ?_;refine plainObj_wpAny_Assign_Attribute ?_ (by k_dflt rfl);refine ev_lv ‹_› ‹_› LocV.a2 ?_;refine ev_lv ‹_› ‹_› LocV.a0 ?_)
  refine sa (sat_Fix w) (po_Fix w) (tk_Fix_lambdas w) (hh_Fix w) ‹_› (.head _) rfl (fun _ _ _=>rfl) rfl (Nat.le_of_ble_eq_true rfl) ?_
  intro s1 tk1 S1
  dsimp only
  with_reducible (refine wpAny_execs_cons ?_;refine plainObj_wpAny_Assign_Attribute ?_ (by k_dflt rfl);refine ev_lv ‹_› ‹_› LocV.a3 ?_;refine ev_lv ‹_› ‹_› LocV.a0 ?_)
  refine sa (sat_Fix w) (po_Fix w) (tk_Fix_body w) (hh_Fix w) ‹_› (.head _) rfl (fun _ _ _=>rfl) rfl (Nat.le_of_ble_eq_true rfl) ?_
  intro s2 tk2 S2
  dsimp only
  with_reducible (refine wpAny_execs_nil ?_)
  exact mk4 _ _ [] _ ⟨S2,fun p hp=>hp,rfl,rfl,_,_,_,_,_,rfl,.head _,rfl⟩
end
section
open PySem.Calls
section
variable {w:World} {c:Cx} {m:Str→Option Value} {own P P₀:Led} {s:Shared} {E:Value→Shared→Prop}
theorem St.addP (S:St w c m own P s) {D:Addr} {o:Obj} {h':Heap} {tk:Nat} (F':Fr c.g c.L h' m) (N':News c.g c.L h' ((D,o)::(own ++ P))) (lt:∀ p∈own ++ P,p.1 < D):St w c m own ((D,o)::P) { s with heap:=h',toks:=tk } :=
  S.same F' (fun p hp=>N' p (by
    rcases List.mem_append.mp hp with hp | hp
    · exact .tail _ (List.mem_append_left _ hp)
    · rcases List.mem_cons.mp hp with rfl | hp
      · exact .head _
      · exact .tail _ (List.mem_append_right _ hp))) (fun q hq p hp=>by
    rcases List.mem_cons.mp hp with rfl | hp
    · exact fun e=>by have:=lt q (List.mem_append_left _ hq);rw [← e] at this;exact Nat.lt_irrefl _ this
    · exact S.ap q hq p hp) S.nd
theorem St.addO (S:St w c m own P s) {D:Addr} {o:Obj} {h':Heap} {tk:Nat} (F':Fr c.g c.L h' m) (N':News c.g c.L h' ((D,o)::(own ++ P))) (lt:∀ p∈own ++ P,p.1 < D):St w c m ((D,o)::own) P { s with heap:=h',toks:=tk } :=
  S.same F' N' (fun q hq p hp=>by
    rcases List.mem_cons.mp hq with rfl | hq
    · exact fun e=>by have:=lt p (List.mem_append_right _ hp);rw [e] at this;exact Nat.lt_irrefl _ this
    · exact S.ap q hq p hp) (by
    refine List.nodup_cons.mpr ⟨fun hm=>?_,S.nd⟩
    refine ex1 (List.mem_map.mp hm) ?_;intro q hy1;refine an2 hy1 ?_;clear hy1;intro hq e
    have:=lt q (List.mem_append_left _ hq)
    rw [e] at this
    exact Nat.lt_irrefl _ this)
theorem St.setO (S:St w c m own P s) {d:Addr} {o o':Obj} {rest:Led} (ho:own = (d,o)::rest) {h':Heap} {tk:Nat} {m':Str→Option Value} (F':Fr c.g c.L h' m') (N':News c.g c.L h' ((d,o')::(rest ++ P))):St w c m' ((d,o')::rest) P { s with heap:=h',toks:=tk }:=by
  subst ho
  exact S.same F' N' (fun q hq p hp=>by
    rcases List.mem_cons.mp hq with rfl | hq
    · exact S.ap _ (List.mem_cons_self (a:=(d,o))) p hp
    · exact S.ap q (.tail _ hq) p hp) S.nd
theorem St.isListP (S:St w c m own P s) {l:Addr} {its:Array Value} {n:Nat} (h:(l,listOf its n)∈P):s.heap.IsList l its:=S.N.isList (List.mem_append_right _ h)
theorem St.isListO (S:St w c m own P s) {l:Addr} {its:Array Value} {n:Nat} (h:(l,listOf its n)∈own):s.heap.IsList l its:=S.N.isList (List.mem_append_left _ h)
theorem St.upd (S:St w c m own P s) {d:Addr} {o o':Obj} {rest:Led} (ho:own = (d,o)::rest):Upd d o o' (own ++ P) ((d,o')::(rest ++ P)):=by
  subst ho
  refine .head fun p hp=>?_
  rcases List.mem_append.mp hp with hp | hp
  · exact fun e=>(List.nodup_cons.mp S.nd).1 (List.mem_map.mpr ⟨p,hp,e⟩)
  · exact S.ap _ (.head _) p hp
theorem callT {cn:Str} {ns:List (Str × NameKind)} {mo:List (Str × Const)} {a:Addr} {ccd:Value} {cl:List (Str × Addr)} {x:Str} {px pos:Pos} {T:String} {e1:Expr} {Q:Value→Shared→Prop} (S:St w c m own P s) (g:goodNs ns = true) (e:nsIn (hd.heap_39 w.params) mainGlobals x = some none) (hv:bootBuiltins x = some (.type T)) (hn:x≠"__name__") (hx:(x,NameKind.globalImplicit)∈ns)
    (h:wpAny (model rw_pq1024_01.row.prog w) c.A (eval e1 (envX cn (fnSc ns mo) c.L a ccd cl)) (fun v1 s1=>wpAny (model rw_pq1024_01.row.prog w) c.A (call (.type T) [v1]) Q E s1) E s)
    (he1:starEach [e1] (envX cn (fnSc ns mo) c.L a ccd cl) = [(false,eval e1 (envX cn (fnSc ns mo) c.L a ccd cl))]:=by rfl) :
    wpAny (model rw_pq1024_01.row.prog w) c.A (eval (.Call (.Name x px) [e1] [] pos) (envX cn (fnSc ns mo) c.L a ccd cl)) Q E s :=
  Call_ (ev_bi S g e hv hn hx (PyProof.Rows.callWith_type1 (args_cons (wpAny_mono h (fun v s1 h1=>args_nil h1) fun _ _ e=>e) he1) he1 rfl))
theorem callB1 {cn:Str} {ns:List (Str × NameKind)} {mo:List (Str × Const)} {a:Addr} {ccd:Value} {cl:List (Str × Addr)} {x:Str} {px pos:Pos} {T:String} {e1:Expr} {Q:Value→Shared→Prop} (S:St w c m own P s) (g:goodNs ns = true) (e:nsIn (hd.heap_39 w.params) mainGlobals x = some none) (hv:bootBuiltins x = some (.builtin T)) (hn:x≠"__name__") (hx:(x,NameKind.globalImplicit)∈ns)
    (h:wpAny (model rw_pq1024_01.row.prog w) c.A (eval e1 (envX cn (fnSc ns mo) c.L a ccd cl)) (fun v1 s1=>wpAny (model rw_pq1024_01.row.prog w) c.A (call (.builtin T) [v1]) Q E s1) E s)
    (he1:starEach [e1] (envX cn (fnSc ns mo) c.L a ccd cl) = [(false,eval e1 (envX cn (fnSc ns mo) c.L a ccd cl))]:=by rfl) :
    wpAny (model rw_pq1024_01.row.prog w) c.A (eval (.Call (.Name x px) [e1] [] pos) (envX cn (fnSc ns mo) c.L a ccd cl)) Q E s :=
  Call_ (ev_bi S g e hv hn hx (PyProof.Rows.callWith_builtin1 (args_cons (wpAny_mono h (fun v s1 h1=>args_nil h1) fun _ _ e=>e) he1) he1 rfl))
theorem callB2 {cn:Str} {ns:List (Str × NameKind)} {mo:List (Str × Const)} {a:Addr} {ccd:Value} {cl:List (Str × Addr)} {x:Str} {px pos:Pos} {T:String} {e1 e2:Expr} {Q:Value→Shared→Prop} (S:St w c m own P s) (g:goodNs ns = true) (e:nsIn (hd.heap_39 w.params) mainGlobals x = some none) (hv:bootBuiltins x = some (.builtin T)) (hn:x≠"__name__") (hx:(x,NameKind.globalImplicit)∈ns)
    (h:wpAny (model rw_pq1024_01.row.prog w) c.A (eval e1 (envX cn (fnSc ns mo) c.L a ccd cl)) (fun v1 s1=>wpAny (model rw_pq1024_01.row.prog w) c.A (eval e2 (envX cn (fnSc ns mo) c.L a ccd cl)) (fun v2 s2=>wpAny (model rw_pq1024_01.row.prog w) c.A (call (.builtin T) [v1,v2]) Q E s2) E s1) E s)
    (he1:starEach [e1,e2] (envX cn (fnSc ns mo) c.L a ccd cl) = [(false,eval e1 (envX cn (fnSc ns mo) c.L a ccd cl)),(false,eval e2 (envX cn (fnSc ns mo) c.L a ccd cl))]:=by rfl) (he2:starEach [e2] (envX cn (fnSc ns mo) c.L a ccd cl) = [(false,eval e2 (envX cn (fnSc ns mo) c.L a ccd cl))]:=by rfl) :
    wpAny (model rw_pq1024_01.row.prog w) c.A (eval (.Call (.Name x px) [e1,e2] [] pos) (envX cn (fnSc ns mo) c.L a ccd cl)) Q E s :=
  Call_ (ev_bi S g e hv hn hx (PyProof.Rows.callWith_builtin1 (args_cons (wpAny_mono h (fun v s1 h1=>args_cons (wpAny_mono h1 (fun v2 s2 h2=>args_nil h2) fun _ _ e=>e) he2) fun _ _ e=>e) (by rw [he2];exact he1)) (by rw [he2];exact he1) (by rw [he2];rfl)))
theorem add_l {a b:Addr} {xs ys:List Value} {Q:Value→Shared→Prop} (S:St w c m own P s) (ha:s.heap.IsList a xs.toArray) (hb:s.heap.IsList b ys.toArray) (hz:xs.length + ys.length≤sizeLine)
    (h:∀ D s',St w c m own ((D,listOf (xs ++ ys).toArray 0)::P) s'→Q (.ref D) s'):wpAny (model rw_pq1024_01.row.prog w) c.A (binaryOp .Add (.ref a) (.ref b)) Q E s :=
  kmk_add_lit (zs:=xs ++ ys) S.F S.N ha hb (by simp) (fun D h' F' N' lt=>h D _ (S.addP F' N' lt)) (by simpa using hz)
theorem list_of {a:Addr} {xs:List Value} {n:Nat} {Q:Value→Shared→Prop} (S:St w c m own P s) (ha:(a,listOf xs.toArray n)∈P) (hz:xs.length≤sizeLine)
    (h:∀ D e s',St w c m own ((D,listOf xs.toArray e)::P) s'→Q (.ref D) s'):wpAny (model rw_pq1024_01.row.prog w) c.A (call (.type "list") [.ref a]) Q E s :=
  kup_listOf (zs:=xs) S.F S.N (List.mem_append_right _ ha) (by simp) (fun D e h' F' N' lt=>h D e _ (S.addP F' N' lt)) (by simpa using hz)
theorem app {D:Addr} {xs:List Value} {n:Nat} {x:Value} {Q:Value→Shared→Prop} (S:St w c m ((D,listOf xs.toArray n)::own) P s) (hz:xs.length≤sizeLine)
    (h:∀ s',St w c m ((D,listOf (xs ++ [x]).toArray (n + 1))::own) P s'→Q .none s'):wpAny (model rw_pq1024_01.row.prog w) c.A (call (.builtin "list.append") [.ref D,x]) Q E s :=
  append_K S.F S.N (S.upd rfl) (fun h' F' N'=>h _ (by have:=S.setO rfl (o':=listOf (xs ++ [x]).toArray (n + 1)) (tk:=s.toks) F' (by rw [List.push_toArray] at N';exact N');exact this)) (by simpa using hz)
end
theorem fits_le {n:Nat} (h:n≤1000000):n≤sizeLine:=by rw [sizeLine_eq];lia
theorem len_kids (t:T):t.kids.length≤t.size:=by have:=len_sizes t.kids;rw [size_eq];lia
noncomputable def partsFn:T→Addr
  | .cint _=>35 | .cun=>35 | .loc _=>35 | .glob _=>35 | .setl _ _=>127 | .lam _ _ _=>160 | .call _ _=>207 | .seq _=>240 | .fix _ _ _=>273
local macro_rules | `(tactic| k_clsL)=>`(tactic| with_reducible first
  | refine wpAny_execs_cons ?_
  | refine wpAny_execs_nil ?_
  | refine wpAny_Return_some ?_
  | (first | refine ev_lv ‹_› ‹_› LocV.a0 ?_ | refine ev_lv ‹_› ‹_› LocV.a1 ?_)
  | refine List_ ?_
  | refine sp0 ?_
  | refine sp1 ?_ (by k_dflt rfl)
  | refine Attribute_any_ ?_ (by k_dflt rfl)
  | refine wpAny_BinOp ?_)
theorem fp_Const (w:World):findIn (hd.heap_39 w.params) (.ref 66) (Str.ofString "parts") = some (some (.ref 35)):=by kernel_rfl
theorem fp_Local (w:World):findIn (hd.heap_39 w.params) (.ref 85) (Str.ofString "parts") = some (some (.ref 35)):=by kernel_rfl
theorem fp_Global (w:World):findIn (hd.heap_39 w.params) (.ref 104) (Str.ofString "parts") = some (some (.ref 35)):=by kernel_rfl
theorem fp_SetLocal (w:World):findIn (hd.heap_39 w.params) (.ref 137) (Str.ofString "parts") = some (some (.ref 127)):=by kernel_rfl
theorem fp_Lambda (w:World):findIn (hd.heap_39 w.params) (.ref 184) (Str.ofString "parts") = some (some (.ref 160)):=by kernel_rfl
theorem fp_Call (w:World):findIn (hd.heap_39 w.params) (.ref 217) (Str.ofString "parts") = some (some (.ref 207)):=by kernel_rfl
theorem fp_Seq (w:World):findIn (hd.heap_39 w.params) (.ref 250) (Str.ofString "parts") = some (some (.ref 240)):=by kernel_rfl
theorem fp_Fix (w:World):findIn (hd.heap_39 w.params) (.ref 283) (Str.ofString "parts") = some (some (.ref 273)):=by kernel_rfl
theorem isfn_35 (w:World):isFn (hd.heap_39 w.params) (.ref 35) = true:=by kernel_rfl
theorem kpf_35 (w:World):keepIn (hd.heap_39 w.params) (.ref 35) = true:=by kernel_rfl
theorem isfn_127 (w:World):isFn (hd.heap_39 w.params) (.ref 127) = true:=by kernel_rfl
theorem kpf_127 (w:World):keepIn (hd.heap_39 w.params) (.ref 127) = true:=by kernel_rfl
theorem isfn_160 (w:World):isFn (hd.heap_39 w.params) (.ref 160) = true:=by kernel_rfl
theorem kpf_160 (w:World):keepIn (hd.heap_39 w.params) (.ref 160) = true:=by kernel_rfl
theorem isfn_207 (w:World):isFn (hd.heap_39 w.params) (.ref 207) = true:=by kernel_rfl
theorem kpf_207 (w:World):keepIn (hd.heap_39 w.params) (.ref 207) = true:=by kernel_rfl
theorem isfn_240 (w:World):isFn (hd.heap_39 w.params) (.ref 240) = true:=by kernel_rfl
theorem kpf_240 (w:World):keepIn (hd.heap_39 w.params) (.ref 240) = true:=by kernel_rfl
theorem isfn_273 (w:World):isFn (hd.heap_39 w.params) (.ref 273) = true:=by kernel_rfl
theorem kpf_273 (w:World):keepIn (hd.heap_39 w.params) (.ref 273) = true:=by kernel_rfl
theorem isfn_134 (w:World):isFn (hd.heap_39 w.params) (.ref 134) = true:=by kernel_rfl
theorem kpf_134 (w:World):keepIn (hd.heap_39 w.params) (.ref 134) = true:=by kernel_rfl
theorem isfn_167 (w:World):isFn (hd.heap_39 w.params) (.ref 167) = true:=by kernel_rfl
theorem kpf_167 (w:World):keepIn (hd.heap_39 w.params) (.ref 167) = true:=by kernel_rfl
theorem isfn_214 (w:World):isFn (hd.heap_39 w.params) (.ref 214) = true:=by kernel_rfl
theorem kpf_214 (w:World):keepIn (hd.heap_39 w.params) (.ref 214) = true:=by kernel_rfl
theorem isfn_247 (w:World):isFn (hd.heap_39 w.params) (.ref 247) = true:=by kernel_rfl
theorem kpf_247 (w:World):keepIn (hd.heap_39 w.params) (.ref 247) = true:=by kernel_rfl
theorem fwp_SetLocal (w:World):findIn (hd.heap_39 w.params) (.ref 137) (Str.ofString "with_parts") = some (some (.ref 134)):=by kernel_rfl
theorem fwp_Lambda (w:World):findIn (hd.heap_39 w.params) (.ref 184) (Str.ofString "with_parts") = some (some (.ref 167)):=by kernel_rfl
theorem fwp_Call (w:World):findIn (hd.heap_39 w.params) (.ref 217) (Str.ofString "with_parts") = some (some (.ref 214)):=by kernel_rfl
theorem fwp_Seq (w:World):findIn (hd.heap_39 w.params) (.ref 250) (Str.ofString "with_parts") = some (some (.ref 247)):=by kernel_rfl
theorem parts_of {w:World} {P:Led} {x:Addr} {t:T} (h:Nd w P x t) (hz:t.size≤1000000):Pure w 2 P (call (.ref (partsFn t)) [.ref x]) fun P' r=>∃ l vs e,r = .ref l∧(l,listOf vs.toArray e)∈P'∧Nds w P' vs t.kids:=by
  intro c m own s Q E S hdp hu ret
  have X:=S.X
  have h':=h
  cases h
  case' cint h1 h2=>skip
  case' cun h1 h2=>skip
  case' loc h1 h2=>skip
  case' glob h1 h2=>skip
  case' setl h1 h2 h3=>skip
  case' lam h1 h2 h3 h4 h5=>skip
  case' call h1 h2 h3 h4 h5=>skip
  case' seq h1 h2 h3 h4=>skip
  case' fix h1 h2 h3 h4 h5 h6 h7=>skip
  all_goals (
    dsimp only [partsFn]
    refine wpAny_call ?_
    (refine enter (K:=hd.heap_39 _) rfl ‹_› (by k_is) (by k_is) (by first | exact bl1 ‹_› | omega) (by exact BindsTo.of_eq rfl) (by exact rfl) (by kernel_rfl) ?_ ‹_›)
    clear ret
    intro c' s' gN _ _ S'
    dsimp only [List.map] at S'
    repeat k_clsL)
  case cint | cun | loc | glob =>
    refine nl S' ?_ (Nat.zero_le _)
    intro l s1 S1
    exact Ends.of (own':=[]) S1 (fun p hp=>.tail _ hp) ⟨_,_,_,rfl,.head _,.nil⟩
  case setl =>
    refine at_setl_value S' h' (fun _ h=>h) ?_
    intro s1 v S1 hv
    with_reducible (refine sp0 ?_)
    refine nl S1 ?_ (Nat.le_of_ble_eq_true rfl)
    intro l s2 S2
    exact Ends.of (own':=[]) S2 (fun p hp=>.tail _ hp) ⟨_,_,_,rfl,.head _,.cons (hv.mono fun p hp=>.tail _ hp) .nil⟩
  case lam =>
    refine at_lam_body S' h' (fun _ h=>h) ?_
    intro s1 v S1 hv
    with_reducible (refine sp0 ?_)
    refine nl S1 ?_ (Nat.le_of_ble_eq_true rfl)
    intro l s2 S2
    exact Ends.of (own':=[]) S2 (fun p hp=>.tail _ hp) ⟨_,_,_,rfl,.head _,.cons (hv.mono fun p hp=>.tail _ hp) .nil⟩
  case call =>
    refine at_call_operator S' h' (fun _ h=>h) ?_
    intro s1 v S1 hv
    with_reducible (refine sp0 ?_)
    refine nl S1 ?_ (Nat.le_of_ble_eq_true rfl)
    intro l s2 S2
    with_reducible (refine Attribute_any_ ?_ (by k_dflt rfl);refine ev_lv ‹_› ‹_› LocV.a0 ?_)
    refine at_call_operands S2 h' (fun p hp=>.tail _ hp) ?_
    intro s3 l2 vs e S3 hl hvs
    refine add_l S3 (S3.isListP (.head _)) (S3.isListP hl) (fits_le (Nat.le_trans (by rw [hvs.length];simp only [T.kids,List.length_cons,List.length_nil];lia) (Nat.le_trans (len_kids _) hz))) ?_
    · intro D s4 S4
      exact Ends.of (own':=[]) S4 (fun p hp=>.tail _ (.tail _ hp)) ⟨_,_,_,rfl,.head _,.cons (hv.mono fun p hp=>.tail _ (.tail _ hp)) (hvs.mono fun p hp=>.tail _ hp)⟩
  case seq =>
    refine callT S' gN (gn_list w) (by boot_by_name) (by decide) (by with_reducible repeat first | exact List.mem_cons_self | assumption | refine List.mem_cons_of_mem _ ?_) ?_
    with_reducible (refine Attribute_any_ ?_ (by k_dflt rfl);refine ev_lv ‹_› ‹_› LocV.a0 ?_)
    refine at_seq_items S' h' (fun _ h=>h) ?_
    intro s1 l vs e S1 hl hvs
    refine list_of S1 hl (fits_le (Nat.le_trans (by rw [hvs.length];exact Nat.le_of_eq rfl) (Nat.le_trans (len_kids _) hz))) ?_
    intro D e2 s2 S2
    exact Ends.of (own':=[]) S2 (fun p hp=>.tail _ hp) ⟨_,_,_,rfl,.head _,hvs.mono fun p hp=>.tail _ hp⟩
  case fix =>
    refine at_fix_lambdas S' h' (fun _ h=>h) ?_
    intro s1 l1 vs e S1 hl hvs
    with_reducible (refine List_ ?_;refine sp1 ?_ (by k_dflt rfl);refine Attribute_any_ ?_ (by k_dflt rfl);refine ev_lv ‹_› ‹_› LocV.a0 ?_)
    refine at_fix_body S1 h' (fun _ h=>h) ?_
    intro s2 v S2 hv
    with_reducible (refine sp0 ?_)
    refine nl S2 ?_ (Nat.le_of_ble_eq_true rfl)
    intro l s3 S3
    refine add_l S3 (S3.isListP (.tail _ hl)) (S3.isListP (.head _)) (fits_le (Nat.le_trans ?_ (Nat.le_trans (len_kids _) hz))) ?_
    · rw [hvs.length];simp only [T.kids,List.length_append,List.length_cons,List.length_nil];lia
    · intro D s4 S4
      exact Ends.of (own':=[]) S4 (fun p hp=>.tail _ (.tail _ hp)) ⟨_,_,_,rfl,.head _,(hvs.mono fun p hp=>.tail _ (.tail _ hp)).append (.cons (hv.mono fun p hp=>.tail _ (.tail _ hp)) .nil)⟩
end
section
open PySem.Calls
inductive All2 {δ:Type} (R:Value→δ→Prop):List Value→List δ→Prop
  | nil:All2 R [] []
  | cons {v:Value} {d:δ} {vs:List Value} {ds:List δ}:R v d→All2 R vs ds→All2 R (v::vs) (d::ds)
theorem All2.mono {δ:Type} {R R':Value→δ→Prop} (h:∀ v d,R v d→R' v d):∀ {vs:List Value} {ds:List δ},All2 R vs ds→All2 R' vs ds:=by
  intro vs ds h2
  induction h2 with
  | nil=>exact .nil
  | cons a _ ih=>exact .cons (h _ _ a) ih
theorem All2.snoc {δ:Type} {R:Value→δ→Prop} {v:Value} {d:δ} (h:R v d):∀ {vs:List Value} {ds:List δ},All2 R vs ds→All2 R (vs ++ [v]) (ds ++ [d]):=by
  intro vs ds h2
  induction h2 with
  | nil=>exact .cons h .nil
  | cons a _ ih=>exact .cons a ih
theorem All2.length {δ:Type} {R:Value→δ→Prop}:∀ {vs:List Value} {ds:List δ},All2 R vs ds→vs.length = ds.length:=by
  intro vs ds h2
  induction h2 with
  | nil=>rfl
  | cons _ _ ih=>rw [List.length_cons,List.length_cons,ih]
theorem All2.get {δ:Type} {R:Value→δ→Prop}:∀ {vs:List Value} {ds:List δ} {i:Nat} {v:Value},All2 R vs ds→vs[i]? = some v→∃ d,ds[i]? = some d∧R v d:=by
  intro vs ds i v h
  induction h generalizing i with
  | nil=>intro e;simp at e
  | cons h _ ih =>
    intro e
    cases i with
    | zero=>cases e;exact ⟨_,rfl,h⟩
    | succ i=>exact ih e
theorem All2.toDat {P:Led}:∀ {vs:List Value} {ts:List T},All2 (fun v t=>DatIn P v t.tell) vs ts→DatAll P vs (tells ts):=by
  intro vs ts h2
  induction h2 with
  | nil=>exact .nil
  | cons a _ ih=>exact .cons a ih
theorem comp_all {w:World} {c:Cx} {m:Str→Option Value} {own P:Led} {s:Shared} {E Q:Value→Shared→Prop} {δ:Type} {Rin Rout:Led→Value→δ→Prop} {ds:List δ} {elt iter:Expr} {x:Str} {px pos:Pos} {scope:Scope} {cl:List (Str × Addr)} {env:Env}
    (hin:∀ P P' v d,(∀ p∈P,p∈P')→Rin P v d→Rin P' v d) (hout:∀ P P' v d,(∀ p∈P,p∈P')→Rout P v d→Rout P' v d) (S:St w c m own P s)
    (hclos:closureFor scope env = pure cl) (hcell:∀ y∈scope.names,y.2≠.cell) (hkind:scope.kind = .function)
    (hnames:∀ y∈scope.names,y.2 = .local→scope.names.lookup y.1 = some .local) (hx:scope.names.lookup x = some .local) (hs:∀ x,foldedSetIterable iter env x = pure x)
    (hit:wpAny (model rw_pq1024_01.row.prog w) c.A (eval iter env) (fun xv s1=>∃ ax vs e P',xv = .ref ax∧St w c m own P' s1∧(∀ p∈P,p∈P')∧(ax,listOf vs.toArray e)∈P'∧All2 (Rin P') vs ds) E s)
    (hz:ds.length≤sizeLine)
    (turn:∀ d∈ds,∀ P' v I oI C oC D m₂ ys s2 E',(∀ p∈P,p∈P')→Rin P' v d→LCg.NsObj oC m₂→m₂ x = some v→St w c m ((I,oI)::(C,oC)::(D,LCg.lst ys)::own) P' s2 →
      wpAny (model rw_pq1024_01.row.prog w) c.A (eval elt (compEnvC scope cl C env)) (fun y s3=>∃ P3,St w c m ((I,oI)::(C,oC)::(D,LCg.lst ys)::own) P3 s3∧(∀ p∈P',p∈P3)∧Rout P3 y d) E' s2)
    (fin:∀ D ys P' s',St w c m own ((D,listOf ys.toArray ys.length)::P') s'→(∀ p∈P,p∈P')→All2 (Rout P') ys ds→Q (.ref D) s') :
    wpAny (model rw_pq1024_01.row.prog w) c.A (eval (.ListComp elt [⟨.Name x px,iter,[],0⟩] scope pos) env) Q E s:=by
  refine LCg.ListComp_U S.F hclos hcell hkind hnames hx (wpAny_mono hit (fun xv s1 h1=>?_) fun _ _ e=>e) hs
  refine ex4 h1 ?_;clear h1;intro ax vs e P' hy2;refine an5 hy2 ?_;clear hy2;intro hx1 S1 hs1 hl hall
  subst hx1
  have hlen:=hall.length
  refine LCg.CompSrc.ledger S1.hh S1.F S1.N (List.mem_append_right own hl) (by rw [List.size_toArray,hlen];exact hz) fun g=>?_
  have key:∀ (j i:Nat) (ys:List Value) (P2:Led),i + j = vs.length→(∀ p∈P',p∈P2)→Apart own P2→All2 (Rout P2) ys (ds.take i) →
      LCg.CompRest rw_pq1024_01.row.prog w c.A c.g c.L m env elt x scope cl { s1 with heap:=g } (LCg.SrcAt c.g ax vs.toArray) (fun i v=>vs.toArray[i]? = some v) (LCg.FinE c.g c.L m { s1 with heap:=g } Q) j i ys (own ++ P2):=by
    intro j
    induction j with
    | zero =>
      intro i ys P2 hi hs2 ap2 hys
      refine LCg.CompRest.zero ?_
      intro D h tk F' N' o1
      have e1:ds.take i = ds:=List.take_of_length_le (by omega)
      rw [e1] at hys
      have oD:∀ p∈own ++ P2,p.1≠D:=by
        have gen:∀ l:Led,LCg.Off1 D l→∀ p∈l,p.1≠D:=by
          intro l
          induction l with
          | nil=>intro _ _ h;exact nomatch h
          | cons q r ih =>
            intro h p hp
            rcases List.mem_cons.mp hp with rfl | hp
            · exact h.1
            · exact ih h.2 p hp
        exact gen _ o1
      refine fin D ys P2 _ ⟨F',fun p hp=>N' p ?_,fun q hq p hp=>?_,S1.nd,S1.X,S1.T,S1.B,S1.hh,S1.fr,S1.eg,S1.ed,S1.eo⟩ (fun p hp=>hs2 p (hs1 p hp)) hys
      · rcases List.mem_append.mp hp with hp | hp
        · exact .tail _ (List.mem_append_left _ hp)
        · rcases List.mem_cons.mp hp with rfl | hp
          · exact .head _
          · exact .tail _ (List.mem_append_right _ hp)
      · rcases List.mem_cons.mp hp with rfl | hp
        · exact Ne.symm (oD q (List.mem_append_left _ hq))
        · exact ap2 q hq p hp
    | succ j ih =>
      intro i ys P2 hi hs2 ap2 hys
      refine LCg.CompRest.succ ?_
      intro v I oI C oC D m₂ h tk E' hv hC hmx F N off ne
      have hv':vs[i]? = some v:=by simpa using hv
      refine ex1 (hall.get hv') ?_;intro d hy3;refine an2 hy3 ?_;clear hy3;intro hd hR
      have off3:=off.mem
      have S2:St w c m ((I,oI)::(C,oC)::(D,LCg.lst ys)::own) P2 { s1 with heap:=h,toks:=tk }:=by
        refine ⟨F,N,fun q hq p hp=>?_,?_,S1.X,S1.T,S1.B,S1.hh,S1.fr,S1.eg,S1.ed,S1.eo⟩
        · have o:=off3 p (List.mem_append_right _ hp)
          rcases List.mem_cons.mp hq with rfl | hq
          · exact o.1
          · rcases List.mem_cons.mp hq with rfl | hq
            · exact o.2.1
            · rcases List.mem_cons.mp hq with rfl | hq
              · exact o.2.2
              · exact ap2 q hq p hp
        · simp only [List.map_cons,List.nodup_cons,List.mem_cons,not_or]
          have notin:∀ b:Addr,(∀ q∈own,q.1≠b)→b ∉ own.map (·.1):=fun b hb hm=>by
            refine ex1 (List.mem_map.mp hm) ?_;intro q hy4;refine an2 hy4 ?_;clear hy4;intro hq e
            exact hb q hq e
          exact ⟨⟨ne.1,ne.2.1,notin _ fun q hq=>(off3 q (List.mem_append_left _ hq)).1⟩,⟨ne.2.2,notin _ fun q hq=>(off3 q (List.mem_append_left _ hq)).2.1⟩,notin _ fun q hq=>(off3 q (List.mem_append_left _ hq)).2.2,S1.nd⟩
      refine wpAny_mono (turn d (List.mem_of_getElem? hd) P2 v I oI C oC D m₂ ys _ E' (fun p hp=>hs2 p (hs1 p hp)) (hin _ _ _ _ hs2 hR) hC hmx S2) (fun y s3 h3=>?_) fun _ _ e=>e
      refine ex1 h3 ?_;clear h3;intro P3 hy5;refine an3 hy5 ?_;clear hy5;intro S3 hs3 hO
      have e3:s3 = { ({ s1 with heap:=h,toks:=tk }:Shared) with heap:=s3.heap,toks:=s3.toks }:=by
        have h1:=S3.eg.trans S1.eg.symm
        have h2:=S3.ed.trans S1.ed.symm
        have h3:=S3.eo.trans S1.eo.symm
        cases s3
        dsimp only at h1 h2 h3
        subst h1 h2 h3
        rfl
      have nd:=S3.nd
      simp only [List.map_cons,List.nodup_cons,List.mem_cons,not_or] at nd
      have apO:∀ q∈own,q.1≠I∧q.1≠C∧q.1≠D:=fun q hq=>(off3 q (List.mem_append_left _ hq))
      refine mk3 s3.heap s3.toks (own ++ P3) ⟨e3,S3.F,S3.N,LCg.Off3.of fun p hp=>?_,.inr ⟨_,List.mem_append_right _ (hs3 _ (hs2 _ hl)),rfl,_,rfl⟩,?_⟩
      · rcases List.mem_append.mp hp with hp | hp
        · exact apO p hp
        · exact ⟨S3.ap _ (.head _) p hp,S3.ap _ (.tail _ (.head _)) p hp,S3.ap _ (.tail _ (.tail _ (.head _))) p hp⟩
      · refine ih (i + 1) (ys ++ [y]) P3 (by omega) (fun p hp=>hs3 p (hs2 p hp)) (fun q hq p hp=>S3.ap q (.tail _ (.tail _ (.tail _ hq))) p hp) ?_
        rw [List.take_add_one,hd]
        exact (hys.mono fun v d h=>hout _ _ _ _ hs3 h).snoc hO
  have:=key vs.length 0 [] P' (by omega) (fun _ h=>h) S1.ap .nil
  rw [List.size_toArray]
  exact this
end
section
open PySem.Calls
section
variable {w:World} {c:Cx} {m:Str→Option Value} {own P P₀:Led} {s:Shared} {E:Value→Shared→Prop} {Q:Value→Shared→Prop}
theorem cv_own {C:Addr} {m₂:Str→Option Value} {scope:Scope} {cl:List (Str × Addr)} {env:Env} {x:Str} {pos:Pos} {v:Value} {oC:Obj} (S:St w c m own P s) (hm:(C,oC)∈own) (hC:LCg.NsObj oC m₂) (hx:m₂ x = some v) (h:Q v s)
    (hk:(compEnvC scope cl C env).scope.kind = .function:=by rfl) (hl:(compEnvC scope cl C env).kindOf x = some .local:=by rfl) (hd:(x == ("__debug__":Str)) = false:=by decide) :
    wpAny (model rw_pq1024_01.row.prog w) c.A (eval (.Name x pos) (compEnvC scope cl C env)) Q E s:=LCgL.ld_own S.N (List.mem_append_left _ hm) hC hx h hk hl hd
theorem cv_glob {C:Addr} {scope:Scope} {cl:List (Str × Addr)} {env:Env} {x:Str} {pos:Pos} {v:Value} (S:St w c m own P s) (e:nsIn (hd.heap_39 w.params) mainGlobals x = some (some v)) (h:Q v s) (hg:env.globals = mainGlobals:=by rfl)
    (hk:(compEnvC scope cl C env).scope.kind = .function:=by rfl) (hx:(compEnvC scope cl C env).kindOf x = some .globalImplicit:=by rfl) (hd:(x == ("__debug__":Str)) = false:=by decide) :
    wpAny (model rw_pq1024_01.row.prog w) c.A (eval (.Name x pos) (compEnvC scope cl C env)) Q E s:=LCgL.ld_global S.F S.X S.T e h hg hk hx hd
/-- a call of a def of the text within a comprehension's element -/
theorem ccall1 {C:Addr} {scope:Scope} {cl:List (Str × Addr)} {env:Env} {x:Str} {px pos:Pos} {fv:Value} {e1:Expr} (S:St w c m own P s) (e:nsIn (hd.heap_39 w.params) mainGlobals x = some (some fv)) (hkp:keepIn (hd.heap_39 w.params) fv = true)
    (h:wpAny (model rw_pq1024_01.row.prog w) c.A (eval e1 (compEnvC scope cl C env)) (fun v1 s1=>(hd.heap_39 w.params).In s1.heap∧wpAny (model rw_pq1024_01.row.prog w) c.A (call fv [v1]) Q E s1) E s) (hg:env.globals = mainGlobals:=by rfl)
    (hk:(compEnvC scope cl C env).scope.kind = .function:=by rfl) (hx:(compEnvC scope cl C env).kindOf x = some .globalImplicit:=by rfl) (hd:(x == ("__debug__":Str)) = false:=by decide)
    (he1:starEach [e1] (compEnvC scope cl C env) = [(false,eval e1 (compEnvC scope cl C env))]:=by rfl) :
    wpAny (model rw_pq1024_01.row.prog w) c.A (eval (.Call (.Name x px) [e1] [] pos) (compEnvC scope cl C env)) Q E s:=by
  refine Call_ (cv_glob S e ?_ hg hk hx hd)
  refine callWith_K S.X hkp ?_ he1 rfl
  exact args_cons (wpAny_mono h (fun v s1 h1=>args_nil h1) fun _ _ e=>e) he1
theorem tuple_of {l:Addr} {xs:List Value} {e:Nat} (S:St w c m own P s) (hl:(l,listOf xs.toArray e)∈P) (hz:xs.length≤16384) (h:∀ D s',St w c m own ((D,tupOf xs 0)::P) s'→Q (.ref D) s') :
    wpAny (model rw_pq1024_01.row.prog w) c.A (call (.type "tuple") [.ref l]) Q E s :=
  kde_tupleOf (zs:=xs) S.F S.N (S.isListP hl) (by simpa using hz) (by simp) fun D h' F' N' lt=>h D _ (S.addP F' N' lt)
theorem in_tup {t:Addr} {vs:List Value} {e:Nat} {ns:List Int} {x:Int} {u:Tok} (S:St w c m own P s) (ht:(t,tupOf vs e)∈P) (hi:IntsAre vs ns) (h:Q (.bool (ns.any (· == x))) s) :
    wpAny (model rw_pq1024_01.row.prog w) c.A (compareOp .In (.int x u) (.ref t)) Q E s :=
  in_tuple_ints (S.N.isTup (List.mem_append_right _ ht)) (by simpa using hi) h
/-- x.parts() -/
theorem parts_m {x:Addr} {t:T} {pl:Sem Bool} {pos:Pos} {env:Env} (S:St w c m own P s) (h:Nd w P₀ x t) (hs:∀ p∈P₀,p∈P) (hz:t.size≤1000000) (hdp:c.A.depth + 2 < recursionLimit) (hu:c.A.units + 16 < cLine)
    (k:∀ l vs e P' s',St w c m own P' s'→(∀ p∈P,p∈P')→(l,listOf (List.toArray vs) e)∈P'→Nds w P' vs t.kids→Q (.ref l) s') :
    wpAny (model rw_pq1024_01.row.prog w) c.A (getMethod (.ref x) (Str.ofString "parts") pl) (fun fx s₂=>wpAny (model rw_pq1024_01.row.prog w) c.A (callWith pos fx.1 fx.2 (backTo pos (starEach [] env)) []) Q E s₂) E s:=by
  have hN:=h.mono hs
  have fin:keepIn (hd.heap_39 w.params) (.ref (partsFn t)) = true→wpAny (model rw_pq1024_01.row.prog w) c.A (callWith pos (.ref (partsFn t)) [.ref x] (backTo pos (starEach [] env)) []) Q E s:=fun hk =>
    callWith_K0 S.kin hk (parts_of hN hz c m own s Q E S hdp hu fun r P' s' S' hs' ⟨l,vs,e,hr,hm,hn⟩=>by rw [hr];exact k l vs e P' s' S' hs' hm hn)
  have hN':=hN
  cases hN with
  | cint h1 h2=>exact method_inst S.F S.X (inst_at S h1 h2) (pg_Const w _) (fp_Const w) (isfn_35 w) rfl (fin (kpf_35 w))
  | cun h1 h2=>exact method_inst S.F S.X (inst_at S h1 h2) (pg_Const w _) (fp_Const w) (isfn_35 w) rfl (fin (kpf_35 w))
  | loc h1 h2=>exact method_inst S.F S.X (inst_at S h1 h2) (pg_Local w _) (fp_Local w) (isfn_35 w) rfl (fin (kpf_35 w))
  | glob h1 h2=>exact method_inst S.F S.X (inst_at S h1 h2) (pg_Global w _) (fp_Global w) (isfn_35 w) rfl (fin (kpf_35 w))
  | setl h1 h2 h3=>exact method_inst S.F S.X (inst_at S h1 h2) (pg_SetLocal w _) (fp_SetLocal w) (isfn_127 w) rfl (fin (kpf_127 w))
  | lam h1 h2 h3 h4 h5=>exact method_inst S.F S.X (inst_at S h1 h2) (pg_Lambda w _) (fp_Lambda w) (isfn_160 w) rfl (fin (kpf_160 w))
  | call h1 h2 h3 h4 h5=>exact method_inst S.F S.X (inst_at S h1 h2) (pg_Call w _) (fp_Call w) (isfn_207 w) rfl (fin (kpf_207 w))
  | seq h1 h2 h3 h4=>exact method_inst S.F S.X (inst_at S h1 h2) (pg_Seq w _) (fp_Seq w) (isfn_240 w) rfl (fin (kpf_240 w))
  | fix h1 h2 h3 h4 h5 h6 h7=>exact method_inst S.F S.X (inst_at S h1 h2) (pg_Fix w _) (fp_Fix w) (isfn_273 w) rfl (fin (kpf_273 w))
end
end
section
open PySem.Calls
noncomputable def nxt:Flow→Bool
  | .next=>true
  | _=>false
noncomputable abbrev Nxt (w:World) (A:Around) (rest:List Stmt) (env:Env) (Q Q':Flow→Shared→Prop) (E:Value→Shared→Prop):Prop:=∀ s,wpAny (model rw_pq1024_01.row.prog w) A (execs rest env) Q E s→Q' .next s
noncomputable abbrev Abr (Q Q':Flow→Shared→Prop):Prop:=∀ f s,nxt f = false→Q f s→Q' f s
theorem eN {w:World} {A:Around} {E:Value→Shared→Prop} {s:Shared} {st:Stmt} {rest:List Stmt} {env:Env} {Q:Flow→Shared→Prop}
    (h:∀ Q',Nxt w A rest env Q Q' E→Abr Q Q'→wpAny (model rw_pq1024_01.row.prog w) A (exec st env) Q' E s):wpAny (model rw_pq1024_01.row.prog w) A (execs (st::rest) env) Q E s :=
  wpAny_execs_cons (h _ (fun _ h=>h) (fun f _ hf h=>by cases f <;> first | exact h | cases hf))
noncomputable abbrev Imp (Q Q':Flow→Shared→Prop):=∀ f s,Q f s→Q' f s
theorem nameQ {w:World} {A:Around} {E:Value→Shared→Prop} {s:Shared} {env:Env} {l:List Stmt} {Q:Flow→Shared→Prop} (h:∀ Q',Imp Q Q'→wpAny (model rw_pq1024_01.row.prog w) A (execs l env) Q' E s):wpAny (model rw_pq1024_01.row.prog w) A (execs l env) Q E s:=h Q fun _ _ h=>h
theorem eA {w:World} {A:Around} {E:Value→Shared→Prop} {s:Shared} {st:Stmt} {rest:List Stmt} {env:Env} {Q Q₀:Flow→Shared→Prop} (_:Abr Q₀ Q)
    (h:∀ Q',Nxt w A rest env Q Q' E→Abr Q Q'→wpAny (model rw_pq1024_01.row.prog w) A (exec st env) Q' E s):wpAny (model rw_pq1024_01.row.prog w) A (execs (st::rest) env) Q E s:=eN h
theorem eI {w:World} {A:Around} {E:Value→Shared→Prop} {s:Shared} {st:Stmt} {rest:List Stmt} {env:Env} {Q Q₀:Flow→Shared→Prop} (_:Imp Q₀ Q)
    (h:∀ Q',Nxt w A rest env Q Q' E→Abr Q Q'→wpAny (model rw_pq1024_01.row.prog w) A (exec st env) Q' E s):wpAny (model rw_pq1024_01.row.prog w) A (execs (st::rest) env) Q E s:=eN h
noncomputable abbrev ImpG {α:Type} (Q Q':α→Shared→Prop):=∀ a s,Q a s→Q' a s
theorem If_N {w:World} {A:Around} {E:Value→Shared→Prop} {s:Shared} {env:Env} {test:Expr} {body orelse:List Stmt} {pos:Pos} {Q:Flow→Shared→Prop}
    (h:∀ Q',ImpG (fun b s₂=>if b = true then wpAny (model rw_pq1024_01.row.prog w) A (execs body env) Q E s₂ else wpAny (model rw_pq1024_01.row.prog w) A (execs orelse env) Q E s₂) Q'→wpAny (model rw_pq1024_01.row.prog w) A (isTrue test env (eval test env)) Q' E s) :
    wpAny (model rw_pq1024_01.row.prog w) A (exec (.If test body orelse pos) env) Q E s:=wpAny_If (h _ fun _ _ h=>h)
theorem IfExpN {w:World} {A:Around} {E:Value→Shared→Prop} {s:Shared} {env:Env} {test body orelse:Expr} {pos:Pos} {Q:Value→Shared→Prop}
    (h:∀ Q',ImpG (fun b s₂=>if b = true then wpAny (model rw_pq1024_01.row.prog w) A (eval body env) Q E s₂ else wpAny (model rw_pq1024_01.row.prog w) A (eval orelse env) Q E s₂) Q'→wpAny (model rw_pq1024_01.row.prog w) A (isTrue test env (eval test env)) Q' E s) :
    wpAny (model rw_pq1024_01.row.prog w) A (eval (.IfExp test body orelse pos) env) Q E s:=IfExp_ (h _ fun _ _ h=>h)
theorem bt_tuple:bootBuiltins (Str.ofString "tuple") = some (.type "tuple"):=by boot_by_name
theorem bt_ne_tuple:(Str.ofString "tuple")≠"__name__":=by decide
theorem sl0:([]:List Value).length≤sizeLine:=Nat.zero_le _
theorem sl1 {a:Value}:[a].length≤sizeLine:=fits_le (by simp)
theorem sl2 {a b:Value}:[a,b].length≤sizeLine:=fits_le (by simp)
theorem sl3 {a b c:Value}:[a,b,c].length≤sizeLine:=fits_le (by simp)
theorem sl4 {a b c d:Value}:[a,b,c,d].length≤sizeLine:=fits_le (by simp)
section
variable {w:World} {c:Cx} {m:Str→Option Value} {own P P₀:Led} {s:Shared} {E:Value→Shared→Prop} {Q:Value→Shared→Prop}
theorem eq_int_ff {prog:Program} {A:Around} {a b:Int} {t u:Tok} (h:(a == b) = false) (hq:Q (.bool false) s):wpAny (model prog w) A (compareOp .Eq (.int a t) (.int b u)) Q E s:=eq_int (h ▸ hq)
theorem eq_int_tt {prog:Program} {A:Around} {a b:Int} {t u:Tok} (h:(a == b) = true) (hq:Q (.bool true) s):wpAny (model prog w) A (compareOp .Eq (.int a t) (.int b u)) Q E s:=eq_int (h ▸ hq)
theorem in_tup_ff {t:Addr} {vs:List Value} {e:Nat} {ns:List Int} {x:Int} {u:Tok} (S:St w c m own P s) (ht:(t,tupOf vs e)∈P) (hi:IntsAre vs ns) (hb:ns.any (· == x) = false) (h:Q (.bool false) s) :
    wpAny (model rw_pq1024_01.row.prog w) c.A (compareOp .In (.int x u) (.ref t)) Q E s:=in_tup S ht hi (hb ▸ h)
theorem in_tup_tt {t:Addr} {vs:List Value} {e:Nat} {ns:List Int} {x:Int} {u:Tok} (S:St w c m own P s) (ht:(t,tupOf vs e)∈P) (hi:IntsAre vs ns) (hb:ns.any (· == x) = true) (h:Q (.bool true) s) :
    wpAny (model rw_pq1024_01.row.prog w) c.A (compareOp .In (.int x u) (.ref t)) Q E s:=in_tup S ht hi (hb ▸ h)
end
theorem tl0:([]:List Value).length≤16384:=by decide
theorem tl1 {a:Value}:[a].length≤16384:=by simp
theorem tl3 {a b c:Value}:[a,b,c].length≤16384:=by simp
theorem dts_ints {P:Led}:∀ {vs:List Value} {ns:List Int},IntsAre vs ns→DatAll P vs (dints ns):=by
  intro vs ns h
  induction h with
  | nil=>exact .nil
  | cons i t _ ih=>exact .cons (.int i t) ih
noncomputable def TR (w:World) (P:Led) (v:Value) (t:T):Prop:=∃ a,v = .ref a∧Nd w P a t
theorem TR.mono {w:World} (P P':Led) (v:Value) (d:T) (hs:∀ p∈P,p∈P'):TR w P v d→TR w P' v d:=fun ⟨a,e,h⟩=>⟨a,e,h.mono hs⟩
theorem dat_mono (P P':Led) (v:Value) (d:T) (hs:∀ p∈P,p∈P'):DatIn P v d.tell→DatIn P' v d.tell:=DatIn.mono hs
theorem All2.ofNds' {w:World} {P:Led}:∀ {vs:List Value} {ts:List T},Nds w P vs ts→All2 (TR w P) vs ts:=fun h=>Nds.ind (M:=fun vs ts=>All2 (TR w P) vs ts) .nil (fun _ _ _ _ h _ ih=>.cons ⟨_,rfl,h⟩ ih) h
theorem comp_kids {w:World} {c:Cx} {m:Str→Option Value} {own P P₀:Led} {s:Shared} {E Q:Value→Shared→Prop} {Rout:Led→Value→T→Prop} {t:T} {xa:Addr} {elt iter:Expr} {x:Str} {px pos:Pos} {scope:Scope} {cl:List (Str × Addr)} {env:Env}
    (_hN:Nd w P₀ xa t) (hz:t.size≤4000) (hout:∀ P P' v d,(∀ p∈P,p∈P')→Rout P v d→Rout P' v d) (S:St w c m own P s)
    (hclos:closureFor scope env = pure cl) (hcell:∀ y∈scope.names,y.2≠.cell) (hkind:scope.kind = .function)
    (hnames:∀ y∈scope.names,y.2 = .local→scope.names.lookup y.1 = some .local) (hx:scope.names.lookup x = some .local) (hs:∀ x,foldedSetIterable iter env x = pure x)
    (hit:wpAny (model rw_pq1024_01.row.prog w) c.A (eval iter env) (fun xv s1=>∃ ax vs e P',xv = .ref ax∧St w c m own P' s1∧(∀ p∈P,p∈P')∧(ax,listOf vs.toArray e)∈P'∧Nds w P' vs t.kids) E s)
    (turn:∀ d∈t.kids,∀ P' a I oI C oC D m₂ ys s2 E',(∀ p∈P,p∈P')→Nd w P' a d→LCg.NsObj oC m₂→m₂ x = some (.ref a)→St w c m ((I,oI)::(C,oC)::(D,LCg.lst ys)::own) P' s2 →
      wpAny (model rw_pq1024_01.row.prog w) c.A (eval elt (compEnvC scope cl C env)) (fun y s3=>∃ P3,St w c m ((I,oI)::(C,oC)::(D,LCg.lst ys)::own) P3 s3∧(∀ p∈P',p∈P3)∧Rout P3 y d) E' s2)
    (fin:∀ D ys P' s',St w c m own ((D,listOf ys.toArray ys.length)::P') s'→(∀ p∈P,p∈P')→All2 (Rout P') ys t.kids→ys.length≤16384→Q (.ref D) s') :
    wpAny (model rw_pq1024_01.row.prog w) c.A (eval (.ListComp elt [⟨.Name x px,iter,[],0⟩] scope pos) env) Q E s :=
  comp_all (Rin:=TR w) (ds:=t.kids) TR.mono hout S hclos hcell hkind hnames hx hs
    (wpAny_mono hit (fun xv s1 ⟨ax,vs,e,P',e1,S1,hs1,hl,hn⟩=>⟨ax,vs,e,P',e1,S1,hs1,hl,All2.ofNds' hn⟩) fun _ _ e=>e)
    (fits_le (Nat.le_trans (len_kids t) (by omega)))
    (fun d hd P' v I oI C oC D m₂ ys s2 E' hs2 ⟨a,e,hNd⟩ hC hm S2=>turn d hd P' a I oI C oC D m₂ ys s2 E' hs2 hNd hC (e ▸ hm) S2)
    (fun D ys P' s' S' hs' hys=>fin D ys P' s' S' hs' hys (by rw [hys.length];exact Nat.le_trans (len_kids t) (by omega)))
theorem isi_int {t:Addr} {i:Int} {k:Tok} {w:World} {c:Cx} {m:Str→Option Value} {own P:Led} {s:Shared} {E:Value→Shared→Prop} {Q:Value→Shared→Prop} (S:St w c m own P s) (ht:(t,tupOf [.type "int",.type "bool"] 0)∈P) (h:∀ s',St w c m own P s'→Q (.bool true) s') :
    wpAny (model rw_pq1024_01.row.prog w) c.A (call (.builtin "isinstance") [.int i k,.ref t]) Q E s:=by
  have N:=S.N
  have F:=S.F
  have X:=S.X
  have hm:=List.mem_append_right own ht
  walk1
  exact h _ (S.tok _)
theorem isi_un {t:Addr} {w:World} {c:Cx} {m:Str→Option Value} {own P:Led} {s:Shared} {E:Value→Shared→Prop} {Q:Value→Shared→Prop} (S:St w c m own P s) (ht:(t,tupOf [.type "int",.type "bool"] 0)∈P) (h:∀ s',St w c m own P s'→Q (.bool false) s') :
    wpAny (model rw_pq1024_01.row.prog w) c.A (call (.builtin "isinstance") [.ref 427,.ref t]) Q E s:=by
  have N:=S.N
  have F:=S.F
  have X:=S.X
  have hm:=List.mem_append_right own ht
  walk1
  exact h _ (S.tok _)
theorem isi_pair {w:World} {c:Cx} {m:Str→Option Value} {own P:Led} {s:Shared} {E:Value→Shared→Prop} {Q:Value→Shared→Prop} (S:St w c m own P s) (h:∀ s',St w c m own P s'→Q (.bool false) s') :
    wpAny (model rw_pq1024_01.row.prog w) c.A (call (.builtin "isinstance") [.ref 427,.ref 445]) Q E s:=by
  have N:=S.N
  have F:=S.F
  have X:=S.X
  walk1
  exact h _ (S.tok _)
theorem fin8_log (i:Fin 8):((i.val:Int)).natAbs.log2 < 1920:=by revert i;decide +kernel
theorem rp_int {i:Fin 8} {k:Tok} {w:World} {c:Cx} {m:Str→Option Value} {own P:Led} {s:Shared} {E:Value→Shared→Prop} {Q:Value→Shared→Prop} (S:St w c m own P s) (h:∀ s' tk,St w c m own P s'→Q (.str (Str.ofString (toString (i.val:Int))) tk) s') :
    wpAny (model rw_pq1024_01.row.prog w) c.A (call (.builtin "repr") [.int (i.val:Int) k]) Q E s:=PySem.P.repr_of_int (fin8_log i) (h _ _ (S.tok _))
theorem bt_isinstance:bootBuiltins (Str.ofString "isinstance") = some (.builtin "isinstance"):=by boot_by_name
theorem bt_repr:bootBuiltins (Str.ofString "repr") = some (.builtin "repr"):=by boot_by_name
theorem bt_int:bootBuiltins (Str.ofString "int") = some (.type "int"):=by boot_by_name
theorem bt_bool:bootBuiltins (Str.ofString "bool") = some (.type "bool"):=by boot_by_name
theorem ne_isinstance:(Str.ofString "isinstance")≠"__name__":=by decide
theorem ne_repr:(Str.ofString "repr")≠"__name__":=by decide
theorem ne_int:(Str.ofString "int")≠"__name__":=by decide
theorem ne_bool:(Str.ofString "bool")≠"__name__":=by decide
section
variable {w:World} {c:Cx} {own P P₀:Led} {s:Shared} {cn:Str} {mo:List (Str × Const)} {a:Addr} {ccd:Value} {cl:List (Str × Addr)} {x K:Str} {ns:List (Str × NameKind)} {vals:List (Option Value)} {E:Value→Shared→Prop} {Q:Bool→Shared→Prop} {p1 p2 p3 p4:Pos} {b:Addr} {t:T} {n:Int} {tk:Tok}
theorem tkE {r:Bool} (S:St w c (asg ns vals) own P s) (g:goodNs ns = true) (hx:LocV ns vals x (.ref b)) (hN:Nd w P₀ b t) (hs:∀ p∈P₀,p∈P) (eK:nsIn (hd.heap_39 w.params) mainGlobals K = some (some (.int n tk))) (mK:(K,NameKind.globalImplicit)∈ns) (hr:(t.kind == n) = r)
    (he:eval (.Attribute (.Name x p1) (Str.ofString "kind") p2) (envX cn (fnSc ns mo) c.L a ccd cl) = (do
      let o ← eval (.Name x p1) (envX cn (fnSc ns mo) c.L a ccd cl)
      standAt p2.atName
      let r ← holding [o] (getAttr o (Str.ofString "kind") true)
      letTemporaryGo (.Name x p1) o r
      pure r)) (h:∀ s',St w c (asg ns vals) own P s'→Q r s') :
    wpAny (model rw_pq1024_01.row.prog w) c.A (isTrue (.Compare (.Attribute (.Name x p1) (Str.ofString "kind") p2) [.Eq] [.Name K p3] p4) (envX cn (fnSc ns mo) c.L a ccd cl) (eval (.Compare (.Attribute (.Name x p1) (Str.ofString "kind") p2) [.Eq] [.Name K p3] p4) (envX cn (fnSc ns mo) c.L a ccd cl))) Q E s :=
  wpAny_isTrue_Compare1 (Attribute_any_ (ev_loc S g ⟨_,hx,at_kind S hN hs rfl fun s' tk' S'=>ev_glob S' g eK mK (eq_int (by rw [hr];exact wpAny_truthy_bool (h s' S')))⟩) he) rfl
theorem tkN {r:Bool} (S:St w c (asg ns vals) own P s) (g:goodNs ns = true) (hx:LocV ns vals x (.ref b)) (hN:Nd w P₀ b t) (hs:∀ p∈P₀,p∈P) (eK:nsIn (hd.heap_39 w.params) mainGlobals K = some (some (.int n tk))) (mK:(K,NameKind.globalImplicit)∈ns) (hr:(t.kind != n) = r)
    (he:eval (.Attribute (.Name x p1) (Str.ofString "kind") p2) (envX cn (fnSc ns mo) c.L a ccd cl) = (do
      let o ← eval (.Name x p1) (envX cn (fnSc ns mo) c.L a ccd cl)
      standAt p2.atName
      let r ← holding [o] (getAttr o (Str.ofString "kind") true)
      letTemporaryGo (.Name x p1) o r
      pure r)) (h:∀ s',St w c (asg ns vals) own P s'→Q r s') :
    wpAny (model rw_pq1024_01.row.prog w) c.A (isTrue (.Compare (.Attribute (.Name x p1) (Str.ofString "kind") p2) [.NotEq] [.Name K p3] p4) (envX cn (fnSc ns mo) c.L a ccd cl) (eval (.Compare (.Attribute (.Name x p1) (Str.ofString "kind") p2) [.NotEq] [.Name K p3] p4) (envX cn (fnSc ns mo) c.L a ccd cl))) Q E s :=
  wpAny_isTrue_Compare1 (Attribute_any_ (ev_loc S g ⟨_,hx,at_kind S hN hs rfl fun s' tk' S'=>ev_glob S' g eK mK (PyProof.Rows.ne_int (by rw [hr];exact wpAny_truthy_bool (h s' S')))⟩) he) rfl
end
noncomputable abbrev MidT (w:World) (A:Around) (r:List Stmt) (env:Env) (Q:Flow→Shared→Prop) (E:Value→Shared→Prop) (Mid:Shared→Prop):Prop:=∀ s',Mid s'→wpAny (model rw_pq1024_01.row.prog w) A (execs r env) Q E s'
theorem cut7 {w:World} {A:Around} {E:Value→Shared→Prop} {s:Shared} {env:Env} {Q:Flow→Shared→Prop} {a1 a2 a3 a4 a5 a6 a7:Stmt} {r:List Stmt} {ns:List (Str × NameKind)} (_:goodNs ns = true) (Mid:List (Str × NameKind)→Shared→Prop) (h2:MidT w A r env Q E (Mid ns))
    (h1:MidT w A r env Q E (Mid ns)→wpAny (model rw_pq1024_01.row.prog w) A (execs (a1::a2::a3::a4::a5::a6::a7::r) env) Q E s):wpAny (model rw_pq1024_01.row.prog w) A (execs (a1::a2::a3::a4::a5::a6::a7::r) env) Q E s:=h1 h2
end
section
open PySem.Calls
local macro_rules | `(tactic| kcf_all)=>`(tactic| with_reducible first | exact DatAll.nil | (refine DatAll.cons (DatIn.int _ _) ?_;kcf_all) | (refine DatAll.cons (DatIn.str _ _) ?_;kcf_all) | (refine DatAll.cons (DatIn.tuple (by k_mem) (dts_ints ‹_›)) ?_;kcf_all))
theorem told1 {w:World} {P:Led} (t:T) (a:Addr) (hN:Nd w P a t) (hz:t.size≤4000) (IH:∀ d∈t.kids,∀ a P,Nd w P a d→Pure w (2 * d.dep + 4) P (call (.ref 543) [.ref a]) fun P' r=>DatIn P' r d.tell) :
    Pure w (2 * t.dep + 4) P (call (.ref 543) [.ref a]) fun P' r=>DatIn P' r t.tell:=by
  intro c m own s Q E S hdp hu ret
  have X:=S.X
  refine wpAny_call ?_
  (refine enter (K:=hd.heap_39 _) rfl ‹_› (by k_is) (by k_is) (by first | exact bl1 ‹_› | omega) (by exact BindsTo.of_eq rfl) (by exact rfl) (by kernel_rfl) ?_ ‹_›)
  clear ret S
  rw [tell_eq]
  intro c' s' gN hd' hu' S'
  dsimp only [List.map] at S'
  have hps:t.nums≤16384:=by have:=size_eq t;omega
  have e0:t.size≤1000000:=by omega
  have e1:c'.A.depth + 2 < recursionLimit:=by first | exact bl ‹_› ‹_› (by decide) | omega
  have e2:c'.A.units + 16 < cLine:=by first | exact bl ‹_› ‹_› (by decide) | omega
  have e3:∀ d∈t.kids,c'.A.depth + (2 * d.dep + 4) < recursionLimit:=fun d hd=>by have:=dep_kid hd;omega
  have e4:∀ d∈t.kids,c'.A.units + 8 * (2 * d.dep + 4) < cLine:=fun d hd=>by have:=dep_kid hd;omega
  clear hdp hu hd' hu'
  refine nameQ ?_;intro Q0 hq
  refine cut7 gN (fun ns s'=>∃ l vs P',St w c' (asg ns [some (.ref a),some (.ref l)]) [] P' s'∧(l,listOf (vs:List Value).toArray 0)∈P'∧(∀ p∈P,p∈P')∧DatAll P' vs t.own∧vs.length≤16384) ?_ ?_
  · intro s1 h1
    refine ex3 h1 ?_;clear h1;intro l vs P1 h1;refine an5 h1 ?_;clear h1;intro S1 hl hP1 hvs hln
    have hk:t.kind = t.kind:=rfl
    clear S' s'
    have hN:=hN.mono hP1
    with_reducible (refine eI ‹_› ?_;intro _ _ _;refine wpAny_Return_some ?_;refine Tuple_ ?_;refine sp1 ?_ (by k_dflt rfl);refine Attribute_any_ ?_ (by k_dflt rfl);refine ev_lv ‹_› ‹_› LocV.a0 ?_;refine at_kind ‹_› ‹_› (by k_places) ‹_› ?_;intro _ _ _;refine sp1 ?_ (by k_dflt rfl);refine callT ‹_› ‹_› (gn_tuple _) bt_tuple bt_ne_tuple mm14 ?_ (by k_dflt rfl);refine ev_lv ‹_› ‹_› LocV.a1 ?_;refine tuple_of ‹_› (by k_mem) (by k_ownIn) ?_;intro _ _ _;refine sp1 ?_ (by k_dflt rfl);refine callT ‹_› ‹_› (gn_tuple _) bt_tuple bt_ne_tuple mm14 ?_ (by k_dflt rfl))
    refine comp_kids (Rout:=fun P v t=>DatIn P v t.tell) ‹_› ‹_› dat_mono ‹_› (by k_dflt rfl) (by decide) (by k_dflt rfl) (by decide) (by k_dflt rfl) (by k_dflt exact fun _=>rfl) ?_ ?_ ?_
    · refine MethodCall_ ?_
      with_reducible (refine ev_lv ‹_› ‹_› LocV.a0 ?_)
      refine parts_m ‹_› hN (by k_places) e0 e1 e2 ?_
      intro l vs e P' s3 S3 hs hl hvs
      exact mk4 l vs e P' ⟨rfl,S3,hs,hl,hvs⟩
    · intro d hdk P' a I oI C oC D m₂ ys s3 E' hs3 hNd hC hm S3
      refine ccall1 S3 (g_law_told _) (kp_law_told _) ?_
      refine cv_own S3 (.tail _ (.head _)) hC hm ?_
      refine ⟨S3.kin,?_⟩
      exact IH d hdk a _ hNd _ _ _ s3 _ _ S3 (e3 d hdk) (e4 d hdk) fun r P3 s4 S4 hs4 ho=>mk1 P3 ⟨S4,hs4,ho⟩
    · intro D ys P' s3 S3 hs3 hys hyl
      with_reducible (refine tuple_of ‹_› (by k_mem) (by k_ownIn) ?_;intro _ _ _;refine sp0 ?_;refine nt ‹_› ?_ sl3;intro _ _ _;refine (by assumption:Abr _ _) _ _ (by k_dflt rfl) ?_;refine (by assumption:Imp _ _) _ _ ?_)
      refine Ends.of ‹_› (fun p hp=>.tail _ (.tail _ (.tail _ (hs3 p (by have:=hP1 p hp;k_mem))))) ?_
      exact DatIn.tuple (.head _) (.cons (.int _ _) (.cons (.tuple (.tail _ (.tail _ (.tail _ (hs3 _ (by k_mem))))) (DatAll.mono (fun p hp=>.tail _ (.tail _ (.tail _ (hs3 p (by k_mem))))) hvs)) (.cons (.tuple (.tail _ (.head _)) ((All2.toDat hys).mono (fun p hp=>.tail _ (.tail _ (.tail _ hp))))) .nil)))
  · intro tail
    clear IH e3 e4
    cases t
    case setl n v =>
      have hk:(T.setl n v).kind = 3:=rfl
      with_reducible (refine eI ‹_› ?_;intro _ _ _;refine wpAny_Assign_Name ?_ (by k_dflt rfl);refine List_ ?_;refine sp0 ?_;refine nl ‹_› ?_ sl0;intro _ _ _;refine st_loc ‹_› ‹_› ?_;refine SetQ.i (SetL.there (SetL.hereN)) ?_;intro _ _;refine (by assumption:Nxt _ _ _ _ _ _ _) _ ?_;refine eI ‹_› ?_;intro _ _ _;refine If_N ?_;intro _ _;refine tkE (r:=false) ‹_› ‹_› LocV.a0 ‹_› (by k_places) (g_CONST _) mm2 (by k_dflt rfl) (by k_dflt rfl) ?_;intro _ _;refine (by assumption:ImpG _ _) _ _ ?_;refine ite_ff ?_;refine wpAny_execs_nil ?_;refine (by assumption:Nxt _ _ _ _ _ _ _) _ ?_;refine eI ‹_› ?_;intro _ _ _;refine If_N ?_;intro _ _;refine wpAny_isTrue_Compare1 ?_ (by k_dflt rfl);refine Attribute_any_ ?_ (by k_dflt rfl);refine ev_lv ‹_› ‹_› LocV.a0 ?_;refine at_kind ‹_› ‹_› (by k_places) ‹_› ?_;intro _ _ _;refine Tuple_ ?_;refine sp1 ?_ (by k_dflt rfl);refine ev_glob ‹_› ‹_› (g_LOCAL _) mm9 ?_;refine sp1 ?_ (by k_dflt rfl);refine ev_glob ‹_› ‹_› (g_SET_LOCAL _) mm10 ?_;refine sp0 ?_;refine nt ‹_› ?_ sl2;intro _ _ _;refine in_tup_tt ‹_› (by k_mem) (.cons _ _ (.cons _ _ .nil)) (by k_dflt rfl) ?_;refine wpAny_truthy_bool ?_;refine (by assumption:ImpG _ _) _ _ ?_;refine ite_tt ?_;refine eA ‹_› ?_;intro _ _ _;refine wpAny_Assign_Name ?_ (by k_dflt rfl);refine List_ ?_;refine sp1 ?_ (by k_dflt rfl);refine Attribute_any_ ?_ (by k_dflt rfl);refine ev_lv ‹_› ‹_› LocV.a0 ?_;refine at_setl_number ‹_› ‹_› (by k_places) ?_;intro _ _ _;refine sp0 ?_;refine nl ‹_› ?_ sl1;intro _ _ _;refine st_loc ‹_› ‹_› ?_;refine SetQ.i (SetL.a1) ?_;intro _ _;refine (by assumption:Nxt _ _ _ _ _ _ _) _ ?_;refine wpAny_execs_nil ?_;refine (by assumption:Nxt _ _ _ _ _ _ _) _ ?_;refine eI ‹_› ?_;intro _ _ _;refine If_N ?_;intro _ _;refine wpAny_isTrue_Compare1 ?_ (by k_dflt rfl);refine Attribute_any_ ?_ (by k_dflt rfl);refine ev_lv ‹_› ‹_› LocV.a0 ?_;refine at_kind ‹_› ‹_› (by k_places) ‹_› ?_;intro _ _ _;refine Tuple_ ?_;refine sp1 ?_ (by k_dflt rfl);refine ev_glob ‹_› ‹_› (g_GLOBAL _) mm11 ?_;refine sp1 ?_ (by k_dflt rfl);refine ev_glob ‹_› ‹_› (g_SET_GLOBAL _) mm12 ?_;refine sp0 ?_;refine nt ‹_› ?_ sl2;intro _ _ _;refine in_tup_ff ‹_› (by k_mem) (.cons _ _ (.cons _ _ .nil)) (by k_dflt rfl) ?_;refine wpAny_truthy_bool ?_;refine (by assumption:ImpG _ _) _ _ ?_;refine ite_ff ?_;refine wpAny_execs_nil ?_;refine (by assumption:Nxt _ _ _ _ _ _ _) _ ?_;refine eI ‹_› ?_;intro _ _ _;refine If_N ?_;intro _ _;refine tkE (r:=false) ‹_› ‹_› LocV.a0 ‹_› (by k_places) (g_LAMBDA _) mm13 (by k_dflt rfl) (by k_dflt rfl) ?_;intro _ _;refine (by assumption:ImpG _ _) _ _ ?_;refine ite_ff ?_;refine wpAny_execs_nil ?_;refine (by assumption:Nxt _ _ _ _ _ _ _) _ ?_;refine eI ‹_› ?_;intro _ _ _;refine If_N ?_;intro _ _;refine tkE (r:=false) ‹_› ‹_› LocV.a0 ‹_› (by k_places) (g_FIX _) mm15 (by k_dflt rfl) (by k_dflt rfl) ?_;intro _ _;refine (by assumption:ImpG _ _) _ _ ?_;refine ite_ff ?_;refine wpAny_execs_nil ?_;refine (by assumption:Nxt _ _ _ _ _ _ _) _ ?_;refine eI ‹_› ?_;intro _ _ _;refine If_N ?_;intro _ _;refine tkE (r:=false) ‹_› ‹_› LocV.a0 ‹_› (by k_places) (g_PRIM _) mm16 (by k_dflt rfl) (by k_dflt rfl) ?_;intro _ _;refine (by assumption:ImpG _ _) _ _ ?_;refine ite_ff ?_;refine wpAny_execs_nil ?_;refine (by assumption:Nxt _ _ _ _ _ _ _) _ ?_;refine (by assumption:MidT _ _ _ _ _ _ _) _ ?_)
      refine mk3 _ _ _ ⟨‹_›,(by k_mem),(by k_places),?_,tl1⟩
      dsimp only [T.own];kcf_all
    case loc n =>
      have hk:(T.loc n).kind = 1:=rfl
      with_reducible (refine eI ‹_› ?_;intro _ _ _;refine wpAny_Assign_Name ?_ (by k_dflt rfl);refine List_ ?_;refine sp0 ?_;refine nl ‹_› ?_ sl0;intro _ _ _;refine st_loc ‹_› ‹_› ?_;refine SetQ.i (SetL.there (SetL.hereN)) ?_;intro _ _;refine (by assumption:Nxt _ _ _ _ _ _ _) _ ?_;refine eI ‹_› ?_;intro _ _ _;refine If_N ?_;intro _ _;refine tkE (r:=false) ‹_› ‹_› LocV.a0 ‹_› (by k_places) (g_CONST _) mm2 (by k_dflt rfl) (by k_dflt rfl) ?_;intro _ _;refine (by assumption:ImpG _ _) _ _ ?_;refine ite_ff ?_;refine wpAny_execs_nil ?_;refine (by assumption:Nxt _ _ _ _ _ _ _) _ ?_;refine eI ‹_› ?_;intro _ _ _;refine If_N ?_;intro _ _;refine wpAny_isTrue_Compare1 ?_ (by k_dflt rfl);refine Attribute_any_ ?_ (by k_dflt rfl);refine ev_lv ‹_› ‹_› LocV.a0 ?_;refine at_kind ‹_› ‹_› (by k_places) ‹_› ?_;intro _ _ _;refine Tuple_ ?_;refine sp1 ?_ (by k_dflt rfl);refine ev_glob ‹_› ‹_› (g_LOCAL _) mm9 ?_;refine sp1 ?_ (by k_dflt rfl);refine ev_glob ‹_› ‹_› (g_SET_LOCAL _) mm10 ?_;refine sp0 ?_;refine nt ‹_› ?_ sl2;intro _ _ _;refine in_tup_tt ‹_› (by k_mem) (.cons _ _ (.cons _ _ .nil)) (by k_dflt rfl) ?_;refine wpAny_truthy_bool ?_;refine (by assumption:ImpG _ _) _ _ ?_;refine ite_tt ?_;refine eA ‹_› ?_;intro _ _ _;refine wpAny_Assign_Name ?_ (by k_dflt rfl);refine List_ ?_;refine sp1 ?_ (by k_dflt rfl);refine Attribute_any_ ?_ (by k_dflt rfl);refine ev_lv ‹_› ‹_› LocV.a0 ?_;refine at_loc ‹_› ‹_› (by k_places) ?_;intro _ _ _;refine sp0 ?_;refine nl ‹_› ?_ sl1;intro _ _ _;refine st_loc ‹_› ‹_› ?_;refine SetQ.i (SetL.a1) ?_;intro _ _;refine (by assumption:Nxt _ _ _ _ _ _ _) _ ?_;refine wpAny_execs_nil ?_;refine (by assumption:Nxt _ _ _ _ _ _ _) _ ?_;refine eI ‹_› ?_;intro _ _ _;refine If_N ?_;intro _ _;refine wpAny_isTrue_Compare1 ?_ (by k_dflt rfl);refine Attribute_any_ ?_ (by k_dflt rfl);refine ev_lv ‹_› ‹_› LocV.a0 ?_;refine at_kind ‹_› ‹_› (by k_places) ‹_› ?_;intro _ _ _;refine Tuple_ ?_;refine sp1 ?_ (by k_dflt rfl);refine ev_glob ‹_› ‹_› (g_GLOBAL _) mm11 ?_;refine sp1 ?_ (by k_dflt rfl);refine ev_glob ‹_› ‹_› (g_SET_GLOBAL _) mm12 ?_;refine sp0 ?_;refine nt ‹_› ?_ sl2;intro _ _ _;refine in_tup_ff ‹_› (by k_mem) (.cons _ _ (.cons _ _ .nil)) (by k_dflt rfl) ?_;refine wpAny_truthy_bool ?_;refine (by assumption:ImpG _ _) _ _ ?_;refine ite_ff ?_;refine wpAny_execs_nil ?_;refine (by assumption:Nxt _ _ _ _ _ _ _) _ ?_;refine eI ‹_› ?_;intro _ _ _;refine If_N ?_;intro _ _;refine tkE (r:=false) ‹_› ‹_› LocV.a0 ‹_› (by k_places) (g_LAMBDA _) mm13 (by k_dflt rfl) (by k_dflt rfl) ?_;intro _ _;refine (by assumption:ImpG _ _) _ _ ?_;refine ite_ff ?_;refine wpAny_execs_nil ?_;refine (by assumption:Nxt _ _ _ _ _ _ _) _ ?_;refine eI ‹_› ?_;intro _ _ _;refine If_N ?_;intro _ _;refine tkE (r:=false) ‹_› ‹_› LocV.a0 ‹_› (by k_places) (g_FIX _) mm15 (by k_dflt rfl) (by k_dflt rfl) ?_;intro _ _;refine (by assumption:ImpG _ _) _ _ ?_;refine ite_ff ?_;refine wpAny_execs_nil ?_;refine (by assumption:Nxt _ _ _ _ _ _ _) _ ?_;refine eI ‹_› ?_;intro _ _ _;refine If_N ?_;intro _ _;refine tkE (r:=false) ‹_› ‹_› LocV.a0 ‹_› (by k_places) (g_PRIM _) mm16 (by k_dflt rfl) (by k_dflt rfl) ?_;intro _ _;refine (by assumption:ImpG _ _) _ _ ?_;refine ite_ff ?_;refine wpAny_execs_nil ?_;refine (by assumption:Nxt _ _ _ _ _ _ _) _ ?_;refine (by assumption:MidT _ _ _ _ _ _ _) _ ?_)
      refine mk3 _ _ _ ⟨‹_›,(by k_mem),(by k_places),?_,tl1⟩
      dsimp only [T.own];kcf_all
    case glob n =>
      have hk:(T.glob n).kind = 2:=rfl
      with_reducible (refine eI ‹_› ?_;intro _ _ _;refine wpAny_Assign_Name ?_ (by k_dflt rfl);refine List_ ?_;refine sp0 ?_;refine nl ‹_› ?_ sl0;intro _ _ _;refine st_loc ‹_› ‹_› ?_;refine SetQ.i (SetL.there (SetL.hereN)) ?_;intro _ _;refine (by assumption:Nxt _ _ _ _ _ _ _) _ ?_;refine eI ‹_› ?_;intro _ _ _;refine If_N ?_;intro _ _;refine tkE (r:=false) ‹_› ‹_› LocV.a0 ‹_› (by k_places) (g_CONST _) mm2 (by k_dflt rfl) (by k_dflt rfl) ?_;intro _ _;refine (by assumption:ImpG _ _) _ _ ?_;refine ite_ff ?_;refine wpAny_execs_nil ?_;refine (by assumption:Nxt _ _ _ _ _ _ _) _ ?_;refine eI ‹_› ?_;intro _ _ _;refine If_N ?_;intro _ _;refine wpAny_isTrue_Compare1 ?_ (by k_dflt rfl);refine Attribute_any_ ?_ (by k_dflt rfl);refine ev_lv ‹_› ‹_› LocV.a0 ?_;refine at_kind ‹_› ‹_› (by k_places) ‹_› ?_;intro _ _ _;refine Tuple_ ?_;refine sp1 ?_ (by k_dflt rfl);refine ev_glob ‹_› ‹_› (g_LOCAL _) mm9 ?_;refine sp1 ?_ (by k_dflt rfl);refine ev_glob ‹_› ‹_› (g_SET_LOCAL _) mm10 ?_;refine sp0 ?_;refine nt ‹_› ?_ sl2;intro _ _ _;refine in_tup_ff ‹_› (by k_mem) (.cons _ _ (.cons _ _ .nil)) (by k_dflt rfl) ?_;refine wpAny_truthy_bool ?_;refine (by assumption:ImpG _ _) _ _ ?_;refine ite_ff ?_;refine wpAny_execs_nil ?_;refine (by assumption:Nxt _ _ _ _ _ _ _) _ ?_;refine eI ‹_› ?_;intro _ _ _;refine If_N ?_;intro _ _;refine wpAny_isTrue_Compare1 ?_ (by k_dflt rfl);refine Attribute_any_ ?_ (by k_dflt rfl);refine ev_lv ‹_› ‹_› LocV.a0 ?_;refine at_kind ‹_› ‹_› (by k_places) ‹_› ?_;intro _ _ _;refine Tuple_ ?_;refine sp1 ?_ (by k_dflt rfl);refine ev_glob ‹_› ‹_› (g_GLOBAL _) mm11 ?_;refine sp1 ?_ (by k_dflt rfl);refine ev_glob ‹_› ‹_› (g_SET_GLOBAL _) mm12 ?_;refine sp0 ?_;refine nt ‹_› ?_ sl2;intro _ _ _;refine in_tup_tt ‹_› (by k_mem) (.cons _ _ (.cons _ _ .nil)) (by k_dflt rfl) ?_;refine wpAny_truthy_bool ?_;refine (by assumption:ImpG _ _) _ _ ?_;refine ite_tt ?_;refine eA ‹_› ?_;intro _ _ _;refine wpAny_Assign_Name ?_ (by k_dflt rfl);refine List_ ?_;refine sp1 ?_ (by k_dflt rfl);refine Attribute_any_ ?_ (by k_dflt rfl);refine ev_lv ‹_› ‹_› LocV.a0 ?_;refine at_glob ‹_› ‹_› (by k_places) ?_;intro _ _ _;refine sp0 ?_;refine nl ‹_› ?_ sl1;intro _ _ _;refine st_loc ‹_› ‹_› ?_;refine SetQ.i (SetL.a1) ?_;intro _ _;refine (by assumption:Nxt _ _ _ _ _ _ _) _ ?_;refine wpAny_execs_nil ?_;refine (by assumption:Nxt _ _ _ _ _ _ _) _ ?_;refine eI ‹_› ?_;intro _ _ _;refine If_N ?_;intro _ _;refine tkE (r:=false) ‹_› ‹_› LocV.a0 ‹_› (by k_places) (g_LAMBDA _) mm13 (by k_dflt rfl) (by k_dflt rfl) ?_;intro _ _;refine (by assumption:ImpG _ _) _ _ ?_;refine ite_ff ?_;refine wpAny_execs_nil ?_;refine (by assumption:Nxt _ _ _ _ _ _ _) _ ?_;refine eI ‹_› ?_;intro _ _ _;refine If_N ?_;intro _ _;refine tkE (r:=false) ‹_› ‹_› LocV.a0 ‹_› (by k_places) (g_FIX _) mm15 (by k_dflt rfl) (by k_dflt rfl) ?_;intro _ _;refine (by assumption:ImpG _ _) _ _ ?_;refine ite_ff ?_;refine wpAny_execs_nil ?_;refine (by assumption:Nxt _ _ _ _ _ _ _) _ ?_;refine eI ‹_› ?_;intro _ _ _;refine If_N ?_;intro _ _;refine tkE (r:=false) ‹_› ‹_› LocV.a0 ‹_› (by k_places) (g_PRIM _) mm16 (by k_dflt rfl) (by k_dflt rfl) ?_;intro _ _;refine (by assumption:ImpG _ _) _ _ ?_;refine ite_ff ?_;refine wpAny_execs_nil ?_;refine (by assumption:Nxt _ _ _ _ _ _ _) _ ?_;refine (by assumption:MidT _ _ _ _ _ _ _) _ ?_)
      refine mk3 _ _ _ ⟨‹_›,(by k_mem),(by k_places),?_,tl1⟩
      dsimp only [T.own];kcf_all
    case call f xs =>
      have hk:(T.call f xs).kind = 8:=rfl
      with_reducible (refine eI ‹_› ?_;intro _ _ _;refine wpAny_Assign_Name ?_ (by k_dflt rfl);refine List_ ?_;refine sp0 ?_;refine nl ‹_› ?_ sl0;intro _ _ _;refine st_loc ‹_› ‹_› ?_;refine SetQ.i (SetL.there (SetL.hereN)) ?_;intro _ _;refine (by assumption:Nxt _ _ _ _ _ _ _) _ ?_;refine eI ‹_› ?_;intro _ _ _;refine If_N ?_;intro _ _;refine tkE (r:=false) ‹_› ‹_› LocV.a0 ‹_› (by k_places) (g_CONST _) mm2 (by k_dflt rfl) (by k_dflt rfl) ?_;intro _ _;refine (by assumption:ImpG _ _) _ _ ?_;refine ite_ff ?_;refine wpAny_execs_nil ?_;refine (by assumption:Nxt _ _ _ _ _ _ _) _ ?_;refine eI ‹_› ?_;intro _ _ _;refine If_N ?_;intro _ _;refine wpAny_isTrue_Compare1 ?_ (by k_dflt rfl);refine Attribute_any_ ?_ (by k_dflt rfl);refine ev_lv ‹_› ‹_› LocV.a0 ?_;refine at_kind ‹_› ‹_› (by k_places) ‹_› ?_;intro _ _ _;refine Tuple_ ?_;refine sp1 ?_ (by k_dflt rfl);refine ev_glob ‹_› ‹_› (g_LOCAL _) mm9 ?_;refine sp1 ?_ (by k_dflt rfl);refine ev_glob ‹_› ‹_› (g_SET_LOCAL _) mm10 ?_;refine sp0 ?_;refine nt ‹_› ?_ sl2;intro _ _ _;refine in_tup_ff ‹_› (by k_mem) (.cons _ _ (.cons _ _ .nil)) (by k_dflt rfl) ?_;refine wpAny_truthy_bool ?_;refine (by assumption:ImpG _ _) _ _ ?_;refine ite_ff ?_;refine wpAny_execs_nil ?_;refine (by assumption:Nxt _ _ _ _ _ _ _) _ ?_;refine eI ‹_› ?_;intro _ _ _;refine If_N ?_;intro _ _;refine wpAny_isTrue_Compare1 ?_ (by k_dflt rfl);refine Attribute_any_ ?_ (by k_dflt rfl);refine ev_lv ‹_› ‹_› LocV.a0 ?_;refine at_kind ‹_› ‹_› (by k_places) ‹_› ?_;intro _ _ _;refine Tuple_ ?_;refine sp1 ?_ (by k_dflt rfl);refine ev_glob ‹_› ‹_› (g_GLOBAL _) mm11 ?_;refine sp1 ?_ (by k_dflt rfl);refine ev_glob ‹_› ‹_› (g_SET_GLOBAL _) mm12 ?_;refine sp0 ?_;refine nt ‹_› ?_ sl2;intro _ _ _;refine in_tup_ff ‹_› (by k_mem) (.cons _ _ (.cons _ _ .nil)) (by k_dflt rfl) ?_;refine wpAny_truthy_bool ?_;refine (by assumption:ImpG _ _) _ _ ?_;refine ite_ff ?_;refine wpAny_execs_nil ?_;refine (by assumption:Nxt _ _ _ _ _ _ _) _ ?_;refine eI ‹_› ?_;intro _ _ _;refine If_N ?_;intro _ _;refine tkE (r:=false) ‹_› ‹_› LocV.a0 ‹_› (by k_places) (g_LAMBDA _) mm13 (by k_dflt rfl) (by k_dflt rfl) ?_;intro _ _;refine (by assumption:ImpG _ _) _ _ ?_;refine ite_ff ?_;refine wpAny_execs_nil ?_;refine (by assumption:Nxt _ _ _ _ _ _ _) _ ?_;refine eI ‹_› ?_;intro _ _ _;refine If_N ?_;intro _ _;refine tkE (r:=false) ‹_› ‹_› LocV.a0 ‹_› (by k_places) (g_FIX _) mm15 (by k_dflt rfl) (by k_dflt rfl) ?_;intro _ _;refine (by assumption:ImpG _ _) _ _ ?_;refine ite_ff ?_;refine wpAny_execs_nil ?_;refine (by assumption:Nxt _ _ _ _ _ _ _) _ ?_;refine eI ‹_› ?_;intro _ _ _;refine If_N ?_;intro _ _;refine tkE (r:=false) ‹_› ‹_› LocV.a0 ‹_› (by k_places) (g_PRIM _) mm16 (by k_dflt rfl) (by k_dflt rfl) ?_;intro _ _;refine (by assumption:ImpG _ _) _ _ ?_;refine ite_ff ?_;refine wpAny_execs_nil ?_;refine (by assumption:Nxt _ _ _ _ _ _ _) _ ?_;refine (by assumption:MidT _ _ _ _ _ _ _) _ ?_)
      refine mk3 _ _ _ ⟨‹_›,(by k_mem),(by k_places),?_,tl0⟩
      dsimp only [T.own];kcf_all
    case seq xs =>
      have hk:(T.seq xs).kind = 9:=rfl
      with_reducible (refine eI ‹_› ?_;intro _ _ _;refine wpAny_Assign_Name ?_ (by k_dflt rfl);refine List_ ?_;refine sp0 ?_;refine nl ‹_› ?_ sl0;intro _ _ _;refine st_loc ‹_› ‹_› ?_;refine SetQ.i (SetL.there (SetL.hereN)) ?_;intro _ _;refine (by assumption:Nxt _ _ _ _ _ _ _) _ ?_;refine eI ‹_› ?_;intro _ _ _;refine If_N ?_;intro _ _;refine tkE (r:=false) ‹_› ‹_› LocV.a0 ‹_› (by k_places) (g_CONST _) mm2 (by k_dflt rfl) (by k_dflt rfl) ?_;intro _ _;refine (by assumption:ImpG _ _) _ _ ?_;refine ite_ff ?_;refine wpAny_execs_nil ?_;refine (by assumption:Nxt _ _ _ _ _ _ _) _ ?_;refine eI ‹_› ?_;intro _ _ _;refine If_N ?_;intro _ _;refine wpAny_isTrue_Compare1 ?_ (by k_dflt rfl);refine Attribute_any_ ?_ (by k_dflt rfl);refine ev_lv ‹_› ‹_› LocV.a0 ?_;refine at_kind ‹_› ‹_› (by k_places) ‹_› ?_;intro _ _ _;refine Tuple_ ?_;refine sp1 ?_ (by k_dflt rfl);refine ev_glob ‹_› ‹_› (g_LOCAL _) mm9 ?_;refine sp1 ?_ (by k_dflt rfl);refine ev_glob ‹_› ‹_› (g_SET_LOCAL _) mm10 ?_;refine sp0 ?_;refine nt ‹_› ?_ sl2;intro _ _ _;refine in_tup_ff ‹_› (by k_mem) (.cons _ _ (.cons _ _ .nil)) (by k_dflt rfl) ?_;refine wpAny_truthy_bool ?_;refine (by assumption:ImpG _ _) _ _ ?_;refine ite_ff ?_;refine wpAny_execs_nil ?_;refine (by assumption:Nxt _ _ _ _ _ _ _) _ ?_;refine eI ‹_› ?_;intro _ _ _;refine If_N ?_;intro _ _;refine wpAny_isTrue_Compare1 ?_ (by k_dflt rfl);refine Attribute_any_ ?_ (by k_dflt rfl);refine ev_lv ‹_› ‹_› LocV.a0 ?_;refine at_kind ‹_› ‹_› (by k_places) ‹_› ?_;intro _ _ _;refine Tuple_ ?_;refine sp1 ?_ (by k_dflt rfl);refine ev_glob ‹_› ‹_› (g_GLOBAL _) mm11 ?_;refine sp1 ?_ (by k_dflt rfl);refine ev_glob ‹_› ‹_› (g_SET_GLOBAL _) mm12 ?_;refine sp0 ?_;refine nt ‹_› ?_ sl2;intro _ _ _;refine in_tup_ff ‹_› (by k_mem) (.cons _ _ (.cons _ _ .nil)) (by k_dflt rfl) ?_;refine wpAny_truthy_bool ?_;refine (by assumption:ImpG _ _) _ _ ?_;refine ite_ff ?_;refine wpAny_execs_nil ?_;refine (by assumption:Nxt _ _ _ _ _ _ _) _ ?_;refine eI ‹_› ?_;intro _ _ _;refine If_N ?_;intro _ _;refine tkE (r:=false) ‹_› ‹_› LocV.a0 ‹_› (by k_places) (g_LAMBDA _) mm13 (by k_dflt rfl) (by k_dflt rfl) ?_;intro _ _;refine (by assumption:ImpG _ _) _ _ ?_;refine ite_ff ?_;refine wpAny_execs_nil ?_;refine (by assumption:Nxt _ _ _ _ _ _ _) _ ?_;refine eI ‹_› ?_;intro _ _ _;refine If_N ?_;intro _ _;refine tkE (r:=false) ‹_› ‹_› LocV.a0 ‹_› (by k_places) (g_FIX _) mm15 (by k_dflt rfl) (by k_dflt rfl) ?_;intro _ _;refine (by assumption:ImpG _ _) _ _ ?_;refine ite_ff ?_;refine wpAny_execs_nil ?_;refine (by assumption:Nxt _ _ _ _ _ _ _) _ ?_;refine eI ‹_› ?_;intro _ _ _;refine If_N ?_;intro _ _;refine tkE (r:=false) ‹_› ‹_› LocV.a0 ‹_› (by k_places) (g_PRIM _) mm16 (by k_dflt rfl) (by k_dflt rfl) ?_;intro _ _;refine (by assumption:ImpG _ _) _ _ ?_;refine ite_ff ?_;refine wpAny_execs_nil ?_;refine (by assumption:Nxt _ _ _ _ _ _ _) _ ?_;refine (by assumption:MidT _ _ _ _ _ _ _) _ ?_)
      refine mk3 _ _ _ ⟨‹_›,(by k_mem),(by k_places),?_,tl0⟩
      dsimp only [T.own];kcf_all
    case cint i =>
      have hk:(T.cint i).kind = 0:=rfl
      with_reducible (refine eI ‹_› ?_;intro _ _ _;refine wpAny_Assign_Name ?_ (by k_dflt rfl);refine List_ ?_;refine sp0 ?_;refine nl ‹_› ?_ sl0;intro _ _ _;refine st_loc ‹_› ‹_› ?_;refine SetQ.i (SetL.there (SetL.hereN)) ?_;intro _ _;refine (by assumption:Nxt _ _ _ _ _ _ _) _ ?_;refine eI ‹_› ?_;intro _ _ _;refine If_N ?_;intro _ _;refine tkE (r:=true) ‹_› ‹_› LocV.a0 ‹_› (by k_places) (g_CONST _) mm2 (by k_dflt rfl) (by k_dflt rfl) ?_;intro _ _;refine (by assumption:ImpG _ _) _ _ ?_;refine ite_tt ?_;refine eA ‹_› ?_;intro _ _ _;refine wpAny_Assign_Name ?_ (by k_dflt rfl);refine List_ ?_;refine sp1 ?_ (by k_dflt rfl);refine IfExpN ?_;intro _ _;refine isTrue_plain ?_ (by k_dflt rfl);refine callB2 ‹_› ‹_› (gn_isinstance _) bt_isinstance ne_isinstance mm3 ?_ (by k_dflt rfl) (by k_dflt rfl);refine Attribute_any_ ?_ (by k_dflt rfl);refine ev_lv ‹_› ‹_› LocV.a0 ?_;refine at_cint ‹_› ‹_› (by k_places) ?_;intro _ _ _;refine Tuple_ ?_;refine sp1 ?_ (by k_dflt rfl);refine ev_bi ‹_› ‹_› (gn_int _) bt_int ne_int mm4 ?_;refine sp1 ?_ (by k_dflt rfl);refine ev_bi ‹_› ‹_› (gn_bool _) bt_bool ne_bool mm5 ?_;refine sp0 ?_;refine nt ‹_› ?_ sl2;intro _ _ _;refine isi_int ‹_› (by k_mem) ?_;intro _ _;refine wpAny_truthy_bool ?_;refine (by assumption:ImpG _ _) _ _ ?_;refine ite_tt ?_;refine callB1 ‹_› ‹_› (gn_repr _) bt_repr ne_repr mm6 ?_ (by k_dflt rfl);refine Attribute_any_ ?_ (by k_dflt rfl);refine ev_lv ‹_› ‹_› LocV.a0 ?_;refine at_cint ‹_› ‹_› (by k_places) ?_;intro _ _ _;refine rp_int ‹_› ?_;intro _ _ _;refine sp0 ?_;refine nl ‹_› ?_ sl1;intro _ _ _;refine st_loc ‹_› ‹_› ?_;refine SetQ.i (SetL.a1) ?_;intro _ _;refine (by assumption:Nxt _ _ _ _ _ _ _) _ ?_;refine wpAny_execs_nil ?_;refine (by assumption:Nxt _ _ _ _ _ _ _) _ ?_;refine eI ‹_› ?_;intro _ _ _;refine If_N ?_;intro _ _;refine wpAny_isTrue_Compare1 ?_ (by k_dflt rfl);refine Attribute_any_ ?_ (by k_dflt rfl);refine ev_lv ‹_› ‹_› LocV.a0 ?_;refine at_kind ‹_› ‹_› (by k_places) ‹_› ?_;intro _ _ _;refine Tuple_ ?_;refine sp1 ?_ (by k_dflt rfl);refine ev_glob ‹_› ‹_› (g_LOCAL _) mm9 ?_;refine sp1 ?_ (by k_dflt rfl);refine ev_glob ‹_› ‹_› (g_SET_LOCAL _) mm10 ?_;refine sp0 ?_;refine nt ‹_› ?_ sl2;intro _ _ _;refine in_tup_ff ‹_› (by k_mem) (.cons _ _ (.cons _ _ .nil)) (by k_dflt rfl) ?_;refine wpAny_truthy_bool ?_;refine (by assumption:ImpG _ _) _ _ ?_;refine ite_ff ?_;refine wpAny_execs_nil ?_;refine (by assumption:Nxt _ _ _ _ _ _ _) _ ?_;refine eI ‹_› ?_;intro _ _ _;refine If_N ?_;intro _ _;refine wpAny_isTrue_Compare1 ?_ (by k_dflt rfl);refine Attribute_any_ ?_ (by k_dflt rfl);refine ev_lv ‹_› ‹_› LocV.a0 ?_;refine at_kind ‹_› ‹_› (by k_places) ‹_› ?_;intro _ _ _;refine Tuple_ ?_;refine sp1 ?_ (by k_dflt rfl);refine ev_glob ‹_› ‹_› (g_GLOBAL _) mm11 ?_;refine sp1 ?_ (by k_dflt rfl);refine ev_glob ‹_› ‹_› (g_SET_GLOBAL _) mm12 ?_;refine sp0 ?_;refine nt ‹_› ?_ sl2;intro _ _ _;refine in_tup_ff ‹_› (by k_mem) (.cons _ _ (.cons _ _ .nil)) (by k_dflt rfl) ?_;refine wpAny_truthy_bool ?_;refine (by assumption:ImpG _ _) _ _ ?_;refine ite_ff ?_;refine wpAny_execs_nil ?_;refine (by assumption:Nxt _ _ _ _ _ _ _) _ ?_;refine eI ‹_› ?_;intro _ _ _;refine If_N ?_;intro _ _;refine tkE (r:=false) ‹_› ‹_› LocV.a0 ‹_› (by k_places) (g_LAMBDA _) mm13 (by k_dflt rfl) (by k_dflt rfl) ?_;intro _ _;refine (by assumption:ImpG _ _) _ _ ?_;refine ite_ff ?_;refine wpAny_execs_nil ?_;refine (by assumption:Nxt _ _ _ _ _ _ _) _ ?_;refine eI ‹_› ?_;intro _ _ _;refine If_N ?_;intro _ _;refine tkE (r:=false) ‹_› ‹_› LocV.a0 ‹_› (by k_places) (g_FIX _) mm15 (by k_dflt rfl) (by k_dflt rfl) ?_;intro _ _;refine (by assumption:ImpG _ _) _ _ ?_;refine ite_ff ?_;refine wpAny_execs_nil ?_;refine (by assumption:Nxt _ _ _ _ _ _ _) _ ?_;refine eI ‹_› ?_;intro _ _ _;refine If_N ?_;intro _ _;refine tkE (r:=false) ‹_› ‹_› LocV.a0 ‹_› (by k_places) (g_PRIM _) mm16 (by k_dflt rfl) (by k_dflt rfl) ?_;intro _ _;refine (by assumption:ImpG _ _) _ _ ?_;refine ite_ff ?_;refine wpAny_execs_nil ?_;refine (by assumption:Nxt _ _ _ _ _ _ _) _ ?_;refine (by assumption:MidT _ _ _ _ _ _ _) _ ?_)
      refine mk3 _ _ _ ⟨‹_›,(by k_mem),(by k_places),?_,tl1⟩
      dsimp only [T.own];kcf_all
    case cun =>
      have hk:T.cun.kind = 0:=rfl
      with_reducible (refine eI ‹_› ?_;intro _ _ _;refine wpAny_Assign_Name ?_ (by k_dflt rfl);refine List_ ?_;refine sp0 ?_;refine nl ‹_› ?_ sl0;intro _ _ _;refine st_loc ‹_› ‹_› ?_;refine SetQ.i (SetL.there (SetL.hereN)) ?_;intro _ _;refine (by assumption:Nxt _ _ _ _ _ _ _) _ ?_;refine eI ‹_› ?_;intro _ _ _;refine If_N ?_;intro _ _;refine tkE (r:=true) ‹_› ‹_› LocV.a0 ‹_› (by k_places) (g_CONST _) mm2 (by k_dflt rfl) (by k_dflt rfl) ?_;intro _ _;refine (by assumption:ImpG _ _) _ _ ?_;refine ite_tt ?_;refine eA ‹_› ?_;intro _ _ _;refine wpAny_Assign_Name ?_ (by k_dflt rfl);refine List_ ?_;refine sp1 ?_ (by k_dflt rfl);refine IfExpN ?_;intro _ _;refine isTrue_plain ?_ (by k_dflt rfl);refine callB2 ‹_› ‹_› (gn_isinstance _) bt_isinstance ne_isinstance mm3 ?_ (by k_dflt rfl) (by k_dflt rfl);refine Attribute_any_ ?_ (by k_dflt rfl);refine ev_lv ‹_› ‹_› LocV.a0 ?_;refine at_cun ‹_› ‹_› (by k_places) ?_;intro _ _;refine Tuple_ ?_;refine sp1 ?_ (by k_dflt rfl);refine ev_bi ‹_› ‹_› (gn_int _) bt_int ne_int mm4 ?_;refine sp1 ?_ (by k_dflt rfl);refine ev_bi ‹_› ‹_› (gn_bool _) bt_bool ne_bool mm5 ?_;refine sp0 ?_;refine nt ‹_› ?_ sl2;intro _ _ _;refine isi_un ‹_› (by k_mem) ?_;intro _ _;refine wpAny_truthy_bool ?_;refine (by assumption:ImpG _ _) _ _ ?_;refine ite_ff ?_;refine IfExpN ?_;intro _ _;refine isTrue_plain ?_ (by k_dflt rfl);refine callB2 ‹_› ‹_› (gn_isinstance _) bt_isinstance ne_isinstance mm3 ?_ (by k_dflt rfl) (by k_dflt rfl);refine Attribute_any_ ?_ (by k_dflt rfl);refine ev_lv ‹_› ‹_› LocV.a0 ?_;refine at_cun ‹_› ‹_› (by k_places) ?_;intro _ _;refine ev_glob ‹_› ‹_› (g_Pair _) mm7 ?_;refine isi_pair ‹_› ?_;intro _ _;refine wpAny_truthy_bool ?_;refine (by assumption:ImpG _ _) _ _ ?_;refine ite_ff ?_;refine IfExpN ?_;intro _ _;refine wpAny_isTrue_Compare1 ?_ (by k_dflt rfl);refine Attribute_any_ ?_ (by k_dflt rfl);refine ev_lv ‹_› ‹_› LocV.a0 ?_;refine at_cun ‹_› ‹_› (by k_places) ?_;intro _ _;refine ev_glob ‹_› ‹_› (g_UNASSIGNED _) mm8 ?_;refine wpAny_is_ref_self ?_;refine wpAny_truthy_bool ?_;refine (by assumption:ImpG _ _) _ _ ?_;refine ite_tt ?_;refine ev_str ‹_› ?_;intro _ _ _;refine sp0 ?_;refine nl ‹_› ?_ sl1;intro _ _ _;refine st_loc ‹_› ‹_› ?_;refine SetQ.i (SetL.a1) ?_;intro _ _;refine (by assumption:Nxt _ _ _ _ _ _ _) _ ?_;refine wpAny_execs_nil ?_;refine (by assumption:Nxt _ _ _ _ _ _ _) _ ?_;refine eI ‹_› ?_;intro _ _ _;refine If_N ?_;intro _ _;refine wpAny_isTrue_Compare1 ?_ (by k_dflt rfl);refine Attribute_any_ ?_ (by k_dflt rfl);refine ev_lv ‹_› ‹_› LocV.a0 ?_;refine at_kind ‹_› ‹_› (by k_places) ‹_› ?_;intro _ _ _;refine Tuple_ ?_;refine sp1 ?_ (by k_dflt rfl);refine ev_glob ‹_› ‹_› (g_LOCAL _) mm9 ?_;refine sp1 ?_ (by k_dflt rfl);refine ev_glob ‹_› ‹_› (g_SET_LOCAL _) mm10 ?_;refine sp0 ?_;refine nt ‹_› ?_ sl2;intro _ _ _;refine in_tup_ff ‹_› (by k_mem) (.cons _ _ (.cons _ _ .nil)) (by k_dflt rfl) ?_;refine wpAny_truthy_bool ?_;refine (by assumption:ImpG _ _) _ _ ?_;refine ite_ff ?_;refine wpAny_execs_nil ?_;refine (by assumption:Nxt _ _ _ _ _ _ _) _ ?_;refine eI ‹_› ?_;intro _ _ _;refine If_N ?_;intro _ _;refine wpAny_isTrue_Compare1 ?_ (by k_dflt rfl);refine Attribute_any_ ?_ (by k_dflt rfl);refine ev_lv ‹_› ‹_› LocV.a0 ?_;refine at_kind ‹_› ‹_› (by k_places) ‹_› ?_;intro _ _ _;refine Tuple_ ?_;refine sp1 ?_ (by k_dflt rfl);refine ev_glob ‹_› ‹_› (g_GLOBAL _) mm11 ?_;refine sp1 ?_ (by k_dflt rfl);refine ev_glob ‹_› ‹_› (g_SET_GLOBAL _) mm12 ?_;refine sp0 ?_;refine nt ‹_› ?_ sl2;intro _ _ _;refine in_tup_ff ‹_› (by k_mem) (.cons _ _ (.cons _ _ .nil)) (by k_dflt rfl) ?_;refine wpAny_truthy_bool ?_;refine (by assumption:ImpG _ _) _ _ ?_;refine ite_ff ?_;refine wpAny_execs_nil ?_;refine (by assumption:Nxt _ _ _ _ _ _ _) _ ?_;refine eI ‹_› ?_;intro _ _ _;refine If_N ?_;intro _ _;refine tkE (r:=false) ‹_› ‹_› LocV.a0 ‹_› (by k_places) (g_LAMBDA _) mm13 (by k_dflt rfl) (by k_dflt rfl) ?_;intro _ _;refine (by assumption:ImpG _ _) _ _ ?_;refine ite_ff ?_;refine wpAny_execs_nil ?_;refine (by assumption:Nxt _ _ _ _ _ _ _) _ ?_;refine eI ‹_› ?_;intro _ _ _;refine If_N ?_;intro _ _;refine tkE (r:=false) ‹_› ‹_› LocV.a0 ‹_› (by k_places) (g_FIX _) mm15 (by k_dflt rfl) (by k_dflt rfl) ?_;intro _ _;refine (by assumption:ImpG _ _) _ _ ?_;refine ite_ff ?_;refine wpAny_execs_nil ?_;refine (by assumption:Nxt _ _ _ _ _ _ _) _ ?_;refine eI ‹_› ?_;intro _ _ _;refine If_N ?_;intro _ _;refine tkE (r:=false) ‹_› ‹_› LocV.a0 ‹_› (by k_places) (g_PRIM _) mm16 (by k_dflt rfl) (by k_dflt rfl) ?_;intro _ _;refine (by assumption:ImpG _ _) _ _ ?_;refine ite_ff ?_;refine wpAny_execs_nil ?_;refine (by assumption:Nxt _ _ _ _ _ _ _) _ ?_;refine (by assumption:MidT _ _ _ _ _ _ _) _ ?_)
      refine mk3 _ _ _ ⟨‹_›,(by k_mem),(by k_places),?_,tl1⟩
      dsimp only [T.own];kcf_all
    case lam l ps b =>
      have hk:(T.lam l ps b).kind = 7:=rfl
      have hpl:ps.length≤16384:=hps
      with_reducible (refine eI ‹_› ?_;intro _ _ _;refine wpAny_Assign_Name ?_ (by k_dflt rfl);refine List_ ?_;refine sp0 ?_;refine nl ‹_› ?_ sl0;intro _ _ _;refine st_loc ‹_› ‹_› ?_;refine SetQ.i (SetL.there (SetL.hereN)) ?_;intro _ _;refine (by assumption:Nxt _ _ _ _ _ _ _) _ ?_;refine eI ‹_› ?_;intro _ _ _;refine If_N ?_;intro _ _;refine tkE (r:=false) ‹_› ‹_› LocV.a0 ‹_› (by k_places) (g_CONST _) mm2 (by k_dflt rfl) (by k_dflt rfl) ?_;intro _ _;refine (by assumption:ImpG _ _) _ _ ?_;refine ite_ff ?_;refine wpAny_execs_nil ?_;refine (by assumption:Nxt _ _ _ _ _ _ _) _ ?_;refine eI ‹_› ?_;intro _ _ _;refine If_N ?_;intro _ _;refine wpAny_isTrue_Compare1 ?_ (by k_dflt rfl);refine Attribute_any_ ?_ (by k_dflt rfl);refine ev_lv ‹_› ‹_› LocV.a0 ?_;refine at_kind ‹_› ‹_› (by k_places) ‹_› ?_;intro _ _ _;refine Tuple_ ?_;refine sp1 ?_ (by k_dflt rfl);refine ev_glob ‹_› ‹_› (g_LOCAL _) mm9 ?_;refine sp1 ?_ (by k_dflt rfl);refine ev_glob ‹_› ‹_› (g_SET_LOCAL _) mm10 ?_;refine sp0 ?_;refine nt ‹_› ?_ sl2;intro _ _ _;refine in_tup_ff ‹_› (by k_mem) (.cons _ _ (.cons _ _ .nil)) (by k_dflt rfl) ?_;refine wpAny_truthy_bool ?_;refine (by assumption:ImpG _ _) _ _ ?_;refine ite_ff ?_;refine wpAny_execs_nil ?_;refine (by assumption:Nxt _ _ _ _ _ _ _) _ ?_;refine eI ‹_› ?_;intro _ _ _;refine If_N ?_;intro _ _;refine wpAny_isTrue_Compare1 ?_ (by k_dflt rfl);refine Attribute_any_ ?_ (by k_dflt rfl);refine ev_lv ‹_› ‹_› LocV.a0 ?_;refine at_kind ‹_› ‹_› (by k_places) ‹_› ?_;intro _ _ _;refine Tuple_ ?_;refine sp1 ?_ (by k_dflt rfl);refine ev_glob ‹_› ‹_› (g_GLOBAL _) mm11 ?_;refine sp1 ?_ (by k_dflt rfl);refine ev_glob ‹_› ‹_› (g_SET_GLOBAL _) mm12 ?_;refine sp0 ?_;refine nt ‹_› ?_ sl2;intro _ _ _;refine in_tup_ff ‹_› (by k_mem) (.cons _ _ (.cons _ _ .nil)) (by k_dflt rfl) ?_;refine wpAny_truthy_bool ?_;refine (by assumption:ImpG _ _) _ _ ?_;refine ite_ff ?_;refine wpAny_execs_nil ?_;refine (by assumption:Nxt _ _ _ _ _ _ _) _ ?_;refine eI ‹_› ?_;intro _ _ _;refine If_N ?_;intro _ _;refine tkE (r:=true) ‹_› ‹_› LocV.a0 ‹_› (by k_places) (g_LAMBDA _) mm13 (by k_dflt rfl) (by k_dflt rfl) ?_;intro _ _;refine (by assumption:ImpG _ _) _ _ ?_;refine ite_tt ?_;refine eA ‹_› ?_;intro _ _ _;refine wpAny_Assign_Name ?_ (by k_dflt rfl);refine List_ ?_;refine sp1 ?_ (by k_dflt rfl);refine Attribute_any_ ?_ (by k_dflt rfl);refine ev_lv ‹_› ‹_› LocV.a0 ?_;refine at_lam_label ‹_› ‹_› (by k_places) ?_;intro _ _ _;refine sp1 ?_ (by k_dflt rfl);refine callT ‹_› ‹_› (gn_tuple _) bt_tuple bt_ne_tuple mm14 ?_ (by k_dflt rfl);refine Attribute_any_ ?_ (by k_dflt rfl);refine ev_lv ‹_› ‹_› LocV.a0 ?_;refine at_lam_params ‹_› ‹_› (by k_places) ?_;intro _ _ _ _ _ _ _;refine tuple_of ‹_› (by k_mem) (Nat.le_trans (Nat.le_of_eq (IntsAre.length ‹_›)) ‹_›) ?_;intro _ _ _;refine sp1 ?_ (by k_dflt rfl);refine Attribute_any_ ?_ (by k_dflt rfl);refine ev_lv ‹_› ‹_› LocV.a0 ?_;refine at_lam_rest ‹_› ‹_› (by k_places) ?_;intro _ _ _;refine sp0 ?_;refine nl ‹_› ?_ sl3;intro _ _ _;refine st_loc ‹_› ‹_› ?_;refine SetQ.i (SetL.a1) ?_;intro _ _;refine (by assumption:Nxt _ _ _ _ _ _ _) _ ?_;refine wpAny_execs_nil ?_;refine (by assumption:Nxt _ _ _ _ _ _ _) _ ?_;refine eI ‹_› ?_;intro _ _ _;refine If_N ?_;intro _ _;refine tkE (r:=false) ‹_› ‹_› LocV.a0 ‹_› (by k_places) (g_FIX _) mm15 (by k_dflt rfl) (by k_dflt rfl) ?_;intro _ _;refine (by assumption:ImpG _ _) _ _ ?_;refine ite_ff ?_;refine wpAny_execs_nil ?_;refine (by assumption:Nxt _ _ _ _ _ _ _) _ ?_;refine eI ‹_› ?_;intro _ _ _;refine If_N ?_;intro _ _;refine tkE (r:=false) ‹_› ‹_› LocV.a0 ‹_› (by k_places) (g_PRIM _) mm16 (by k_dflt rfl) (by k_dflt rfl) ?_;intro _ _;refine (by assumption:ImpG _ _) _ _ ?_;refine ite_ff ?_;refine wpAny_execs_nil ?_;refine (by assumption:Nxt _ _ _ _ _ _ _) _ ?_;refine (by assumption:MidT _ _ _ _ _ _ _) _ ?_)
      refine mk3 _ _ _ ⟨‹_›,(by k_mem),(by k_places),?_,tl3⟩
      dsimp only [T.own];kcf_all
    case fix ns ls b =>
      have hk:(T.fix ns ls b).kind = 11:=rfl
      have hpl:ns.length≤16384:=hps
      with_reducible (refine eI ‹_› ?_;intro _ _ _;refine wpAny_Assign_Name ?_ (by k_dflt rfl);refine List_ ?_;refine sp0 ?_;refine nl ‹_› ?_ sl0;intro _ _ _;refine st_loc ‹_› ‹_› ?_;refine SetQ.i (SetL.there (SetL.hereN)) ?_;intro _ _;refine (by assumption:Nxt _ _ _ _ _ _ _) _ ?_;refine eI ‹_› ?_;intro _ _ _;refine If_N ?_;intro _ _;refine tkE (r:=false) ‹_› ‹_› LocV.a0 ‹_› (by k_places) (g_CONST _) mm2 (by k_dflt rfl) (by k_dflt rfl) ?_;intro _ _;refine (by assumption:ImpG _ _) _ _ ?_;refine ite_ff ?_;refine wpAny_execs_nil ?_;refine (by assumption:Nxt _ _ _ _ _ _ _) _ ?_;refine eI ‹_› ?_;intro _ _ _;refine If_N ?_;intro _ _;refine wpAny_isTrue_Compare1 ?_ (by k_dflt rfl);refine Attribute_any_ ?_ (by k_dflt rfl);refine ev_lv ‹_› ‹_› LocV.a0 ?_;refine at_kind ‹_› ‹_› (by k_places) ‹_› ?_;intro _ _ _;refine Tuple_ ?_;refine sp1 ?_ (by k_dflt rfl);refine ev_glob ‹_› ‹_› (g_LOCAL _) mm9 ?_;refine sp1 ?_ (by k_dflt rfl);refine ev_glob ‹_› ‹_› (g_SET_LOCAL _) mm10 ?_;refine sp0 ?_;refine nt ‹_› ?_ sl2;intro _ _ _;refine in_tup_ff ‹_› (by k_mem) (.cons _ _ (.cons _ _ .nil)) (by k_dflt rfl) ?_;refine wpAny_truthy_bool ?_;refine (by assumption:ImpG _ _) _ _ ?_;refine ite_ff ?_;refine wpAny_execs_nil ?_;refine (by assumption:Nxt _ _ _ _ _ _ _) _ ?_;refine eI ‹_› ?_;intro _ _ _;refine If_N ?_;intro _ _;refine wpAny_isTrue_Compare1 ?_ (by k_dflt rfl);refine Attribute_any_ ?_ (by k_dflt rfl);refine ev_lv ‹_› ‹_› LocV.a0 ?_;refine at_kind ‹_› ‹_› (by k_places) ‹_› ?_;intro _ _ _;refine Tuple_ ?_;refine sp1 ?_ (by k_dflt rfl);refine ev_glob ‹_› ‹_› (g_GLOBAL _) mm11 ?_;refine sp1 ?_ (by k_dflt rfl);refine ev_glob ‹_› ‹_› (g_SET_GLOBAL _) mm12 ?_;refine sp0 ?_;refine nt ‹_› ?_ sl2;intro _ _ _;refine in_tup_ff ‹_› (by k_mem) (.cons _ _ (.cons _ _ .nil)) (by k_dflt rfl) ?_;refine wpAny_truthy_bool ?_;refine (by assumption:ImpG _ _) _ _ ?_;refine ite_ff ?_;refine wpAny_execs_nil ?_;refine (by assumption:Nxt _ _ _ _ _ _ _) _ ?_;refine eI ‹_› ?_;intro _ _ _;refine If_N ?_;intro _ _;refine tkE (r:=false) ‹_› ‹_› LocV.a0 ‹_› (by k_places) (g_LAMBDA _) mm13 (by k_dflt rfl) (by k_dflt rfl) ?_;intro _ _;refine (by assumption:ImpG _ _) _ _ ?_;refine ite_ff ?_;refine wpAny_execs_nil ?_;refine (by assumption:Nxt _ _ _ _ _ _ _) _ ?_;refine eI ‹_› ?_;intro _ _ _;refine If_N ?_;intro _ _;refine tkE (r:=true) ‹_› ‹_› LocV.a0 ‹_› (by k_places) (g_FIX _) mm15 (by k_dflt rfl) (by k_dflt rfl) ?_;intro _ _;refine (by assumption:ImpG _ _) _ _ ?_;refine ite_tt ?_;refine eA ‹_› ?_;intro _ _ _;refine wpAny_Assign_Name ?_ (by k_dflt rfl);refine List_ ?_;refine sp1 ?_ (by k_dflt rfl);refine callT ‹_› ‹_› (gn_tuple _) bt_tuple bt_ne_tuple mm14 ?_ (by k_dflt rfl);refine Attribute_any_ ?_ (by k_dflt rfl);refine ev_lv ‹_› ‹_› LocV.a0 ?_;refine at_fix_numbers ‹_› ‹_› (by k_places) ?_;intro _ _ _ _ _ _ _;refine tuple_of ‹_› (by k_mem) (Nat.le_trans (Nat.le_of_eq (IntsAre.length ‹_›)) ‹_›) ?_;intro _ _ _;refine sp0 ?_;refine nl ‹_› ?_ sl1;intro _ _ _;refine st_loc ‹_› ‹_› ?_;refine SetQ.i (SetL.a1) ?_;intro _ _;refine (by assumption:Nxt _ _ _ _ _ _ _) _ ?_;refine wpAny_execs_nil ?_;refine (by assumption:Nxt _ _ _ _ _ _ _) _ ?_;refine eI ‹_› ?_;intro _ _ _;refine If_N ?_;intro _ _;refine tkE (r:=false) ‹_› ‹_› LocV.a0 ‹_› (by k_places) (g_PRIM _) mm16 (by k_dflt rfl) (by k_dflt rfl) ?_;intro _ _;refine (by assumption:ImpG _ _) _ _ ?_;refine ite_ff ?_;refine wpAny_execs_nil ?_;refine (by assumption:Nxt _ _ _ _ _ _ _) _ ?_;refine (by assumption:MidT _ _ _ _ _ _ _) _ ?_)
      refine mk3 _ _ _ ⟨‹_›,(by k_mem),(by k_places),?_,tl1⟩
      dsimp only [T.own];kcf_all
theorem told {w:World} {P:Led} (t:T) (a:Addr) (hN:Nd w P a t) (hz:t.size≤4000):Pure w (2 * t.dep + 4) P (call (.ref 543) [.ref a]) fun P' r=>DatIn P' r t.tell :=
  told1 t a hN hz fun d hd a P h=>told d a h (by have:=size_kid hd;omega)
termination_by t.size
decreasing_by exact size_kid hd
end
section
open PySem.Calls
section
variable {w:World} {c:Cx} {m:Str→Option Value} {own P P₀:Led} {s:Shared} {E:Value→Shared→Prop}
/-- a while by an invariant and a measure -/
theorem whileR {prog:Program} {A:Around} {env:Env} {test:Expr} {body orelse:List Stmt} {pos:Pos} {Q:Flow→Shared→Prop} (I:Nat→Shared→Prop)
    (turn:∀ k s Qz,ImpG (fun b s₂=>if b = true then wpAny (model prog w) A (execs body env) (fun f s₃=>match f with | .next=>∃ k',k' < k∧I k' s₃ | .cont=>∃ k',k' < k∧I k' s₃ | .brk=>Q .next s₃ | .ret v=>Q (.ret v) s₃) (fun _ _=>False) s₂
      else wpAny (model prog w) A (execs orelse env) Q (fun _ _=>False) s₂) Qz→I k s→wpAny (model prog w) A (PySem.isTrue test env (eval test env)) Qz (fun _ _=>False) s) (k:Nat) (s:Shared) (h:I k s):wpAny (model prog w) A (exec (.While test body orelse pos) env) Q (fun _ _=>False) s:=by
  suffices all:∀ n k s,k < n→I k s→codeAny (model prog w) A (.whileLoop test body orelse env) (fun r s'=>match r with | .ok f=>Q f s' | .error e=>cameBackBy (model prog w) A env (fun _ _=>False) e s') s from wpAny_While (all (k + 1) k s (Nat.lt_succ_self _) h)
  intro n
  induction n with
  | zero=>intro k s hk;exact absurd hk (Nat.not_lt_zero _)
  | succ n ih =>
    intro k s hk h
    refine codeAny_of_tree ?_
    show wpAny _ A ((whileTurn test body orelse env).onRaise (fun x=>do noteFrame x env;theTreesLotGoes x)) _ _ s
    refine wpAny_noted ?_
    simp only [whileTurn]
    refine wpAny_bind (wpAny_mono (turn k s _ (fun _ _ h=>h) h) (fun b s₂ h₂=>?_) fun _ _ e=>e.elim)
    cases b with
    | false =>
      simp only [Bool.false_eq_true,if_false] at h₂ ⊢
      exact wpAny_bind (wpAny_mono h₂ (fun f s₃ h₄=>wpAny_pure h₄) fun _ _ e=>e.elim)
    | true =>
      simp only [if_true] at h₂ ⊢
      refine wpAny_bind (wpAny_mono h₂ (fun f s₃ h₄=>?_) fun _ _ e=>e.elim)
      cases f with
      | next=>obtain ⟨k',hlt,hI⟩:=h₄;exact wpAny_pure ⟨rfl,ih k' s₃ (by omega) hI⟩
      | cont=>obtain ⟨k',hlt,hI⟩:=h₄;exact wpAny_pure ⟨rfl,ih k' s₃ (by omega) hI⟩
      | brk=>exact wpAny_pure h₄
      | ret v=>exact wpAny_pure h₄
theorem seqIndex_at {k:Int} {n:Nat} (h0:0≤k) (h:k.toNat < n):seqIndex? k n = some k.toNat:=by
  unfold seqIndex?
  have h1:¬ k < 0:=by omega
  simp only [h1,if_false]
  first
    | (rw [if_pos (by omega)])
    | (rw [if_neg (by omega)])
    | (simp;omega)
theorem li_item {value slice:Expr} {l:Addr} {xs:List Value} {k:Int} {u:Tok} {v:Value} {Q:Value→Shared→Prop} (hl:s.heap.IsList l xs.toArray) (h0:0≤k) (hk:k < 2 ^ 63) (hx:xs[k.toNat]? = some v) (h:Q v s)
    (hs:subscripted slice false (.ref l) (.int k u) = operate [.ref l,.int k u] (getItem (.ref l) (.int k u))) :
    wpAny (model rw_pq1024_01.row.prog w) c.A (subscriptTail value slice (.ref l) (.int k u)) Q E s :=
  tail_any hl.typeIs slot_list_getitem.lookup (wpAny_getItem_list hl h0 hk (by simpa using hx) h) hs
theorem tup_item {value slice:Expr} {l:Addr} {xs:List Value} {k:Int} {u:Tok} {v:Value} {n:Nat} {Q:Value→Shared→Prop} (S:St w c m own P s) (ht:(l,tupOf xs n)∈P) (h0:0≤k) (hk:k < 2 ^ 63) (hx:xs[k.toNat]? = some v) (h:Q v s)
    (hs:subscripted slice false (.ref l) (.int k u) = operate [.ref l,.int k u] (getItem (.ref l) (.int k u))) :
    wpAny (model rw_pq1024_01.row.prog w) c.A (subscriptTail value slice (.ref l) (.int k u)) Q E s :=
  item_tupleT (l:=xs) (j:=k.toNat) (S.N.isTup (List.mem_append_right _ ht)) (by omega) hk (by
    have:k.toNat < xs.length:=by
      rcases Nat.lt_or_ge k.toNat xs.length with h | h
      · exact h
      · rw [List.getElem?_eq_none h] at hx;cases hx
    exact seqIndex_at h0 this) hx h hs
theorem pop0 {D:Addr} {y:Value} {q:List Value} {n:Nat} {u:Tok} {Q:Value→Shared→Prop} (S:St w c m ((D,listOf (y::q).toArray n)::own) P s) (hz:(y::q).length≤sizeLine)
    (h:∀ s',St w c m ((D,listOf q.toArray (n + 1))::own) P s'→Q y s'):wpAny (model rw_pq1024_01.row.prog w) c.A (call (.builtin "list.pop") [.ref D,.int 0 u]) Q E s :=
  kl_popAt (p:=[]) (y:=y) (q:=q) (k:=0) S.F S.N rfl (seqIndex_at (k:=0) (n:=(y::q).toArray.size) (Int.le_refl 0) (by simp)) rfl (S.upd rfl) (by simpa using hz) fun h' F' N'=>h _ (S.setO rfl (tk:=s.toks) F' N')
theorem popL {D:Addr} {y:Value} {q:List Value} {n:Nat} {Q:Value→Shared→Prop} (S:St w c m ((D,listOf (q ++ [y]).toArray n)::own) P s) (hz:(q ++ [y]).length≤sizeLine)
    (h:∀ s',St w c m ((D,listOf q.toArray (n + 1))::own) P s'→Q y s'):wpAny (model rw_pq1024_01.row.prog w) c.A (call (.builtin "list.pop") [.ref D]) Q E s :=
  kl_pop (p:=q) (y:=y) S.F S.N (by rw [show (q ++ [y]).toArray.toList = q ++ [y] from rfl];exact kpa_last y q) (S.upd rfl) (by simpa using hz) fun h' F' N'=>h _ (S.setO rfl (tk:=s.toks) F' N')
theorem ki_setL_set:∀ {l:List Value} {k:Nat} {v:Value},k < l.length→ki_setL l k v = some (l.set k v):=by
  intro l
  induction l with
  | nil=>intro k v h;exact absurd h (Nat.not_lt_zero _)
  | cons x r ih =>
    intro k v h
    cases k with
    | zero=>rfl
    | succ k =>
      have:=ih (k:=k) (v:=v) (Nat.lt_of_succ_lt_succ h)
      unfold ki_setL
      rw [this]
      rfl
theorem setAt {D:Addr} {xs:List Value} {n:Nat} {k:Int} {t:Tok} {v:Value} {Q:Unit→Shared→Prop} (S:St w c m ((D,listOf xs.toArray n)::own) P s) (h0:0≤k) (hk:k < 2 ^ 63) (hl:k.toNat < xs.length)
    (h:∀ s',St w c m ((D,listOf (xs.set k.toNat v).toArray n)::own) P s'→Q () s'):wpAny (model rw_pq1024_01.row.prog w) c.A (PySem.setItem (.ref D) (.int k t) v) Q E s :=
  ki_set (q:=xs.set k.toNat v) S.F S.N h0 hk (by rw [show xs.toArray.toList = xs from rfl];exact ki_setL_set hl) (S.upd rfl) fun h' F' N'=>h _ (S.setO rfl (tk:=s.toks) F' N')
theorem dat_ints {P:Led}:∀ {vs:List Value} {ns:List Int},IntsAre vs ns→DatAll P vs (ns.map Dat.int):=by
  intro vs ns h
  induction h with
  | nil=>exact .nil
  | cons i t _ ih=>exact .cons (.int i t) ih
theorem ints_ok (ns:List Int):∀ d∈ns.map Dat.int,kqdOk 8 d = true:=by
  intro d hd
  refine ex1 (List.mem_map.mp hd) ?_;intro i hy2;refine an2 hy2 ?_;clear hy2;intro _ hx1
  symm at hx1;subst hx1
  rfl
/-- a list of ints against an empty display -/
theorem ne_nil {D l:Addr} {xs:List Value} {n e:Nat} {ns:List Int} {Q:Value→Shared→Prop} (S:St w c m ((D,listOf xs.toArray n)::own) P s) (hi:IntsAre xs ns) (hl:(l,listOf ([]:List Value).toArray e)∈P) (hu:c.A.units + 64 < cLine)
    (h:Q (.bool (!ns.isEmpty)) s):wpAny (model rw_pq1024_01.row.prog w) c.A (compareOp .NotEq (.ref D) (.ref l)) Q E s:=by
  refine kqd_ne (n₁:=[]) (n₂:=[]) S.N (List.mem_append_left _ (List.Mem.head _)) rfl rfl (dat_ints hi) (fun _ h=>nomatch h) (List.mem_append_right _ hl) rfl rfl DatAll.nil (fun _ h=>nomatch h) (ints_ok ns) (fun _ h=>nomatch h) hu ?_
  have:(decide (ns.map Dat.int = [])) = ns.isEmpty:=by cases ns <;> simp
  rw [this];exact h
theorem eq_nil {D l:Addr} {xs:List Value} {n e:Nat} {ns:List Int} {Q:Value→Shared→Prop} (S:St w c m ((D,listOf xs.toArray n)::own) P s) (hi:IntsAre xs ns) (hl:(l,listOf ([]:List Value).toArray e)∈P) (hu:c.A.units + 64 < cLine)
    (h:Q (.bool ns.isEmpty) s):wpAny (model rw_pq1024_01.row.prog w) c.A (compareOp .Eq (.ref D) (.ref l)) Q E s:=by
  refine kqd_eq (n₁:=[]) (n₂:=[]) S.N (List.mem_append_left _ (List.Mem.head _)) rfl rfl (dat_ints hi) (fun _ h=>nomatch h) (List.mem_append_right _ hl) rfl rfl DatAll.nil (fun _ h=>nomatch h) (ints_ok ns) (fun _ h=>nomatch h) hu ?_
  have:(decide (ns.map Dat.int = [])) = ns.isEmpty:=by cases ns <;> simp
  rw [this];exact h
theorem set0 {D:Addr} {y:Value} {r:List Value} {n:Nat} {t:Tok} {v:Value} {Q:Unit→Shared→Prop} (S:St w c m ((D,listOf (y::r).toArray n)::own) P s)
    (h:∀ s',St w c m ((D,listOf (v::r).toArray n)::own) P s'→Q () s'):wpAny (model rw_pq1024_01.row.prog w) c.A (PySem.setItem (.ref D) (.int 0 t) v) Q E s:=setAt S (by decide) (by decide) (by simp) h
theorem lmeth {D:Addr} {its:Array Value} {n:Nat} {name:Str} {id:String} {pl:Sem Bool} {Q:Value × List Value→Shared→Prop} (S:St w c m own P s) (hm:(D,listOf its n)∈own) (slot:Slot "list" name id) (hty:typeOf (.builtin id) = pure (.type "method_descriptor"))
    (h:Q (.builtin id,[.ref D]) s):wpAny (model rw_pq1024_01.row.prog w) c.A (getMethod (.ref D) name pl) Q E s:=kl_method S.N (List.mem_append_left _ hm) slot hty h
end
section
variable {w:World} {c:Cx} {own P P₀:Led} {s:Shared} {cn:Str} {mo:List (Str × Const)} {a:Addr} {ccd:Value} {cl:List (Str × Addr)} {x K:Str} {ns:List (Str × NameKind)} {vals:List (Option Value)} {E:Value→Shared→Prop} {Q:Bool→Shared→Prop} {p1 p2 p3 p4:Pos} {b:Addr} {t:T} {n:Int} {tk:Tok}
theorem subT {QV:Value→Shared→Prop} {i:Int} {kk:Nat} {vs:List Value} {e:Nat} {v:Value} (S:St w c (asg ns vals) own P s) (g:goodNs ns = true) (hx:LocV ns vals x (.ref b)) (ht:(b,tupOf vs e)∈P) (h0:decide (0≤i) = true) (h1:decide (i < 2 ^ 63) = true) (hv:vs[i.toNat]? = some v)
    (he:∀ u,subscripted (.Constant (.int i) kk p2) false (.ref b) (.int i u) = operate [.ref b,.int i u] (getItem (.ref b) (.int i u))) (h:∀ s',St w c (asg ns vals) own P s'→QV v s') :
    wpAny (model rw_pq1024_01.row.prog w) c.A (eval (.Subscript (.Name x p1) (.Constant (.int i) kk p2) p3) (envX cn (fnSc ns mo) c.L a ccd cl)) QV E s :=
  Subscript_ (ev_loc S g ⟨_,hx,ev_int S fun s' tk S'=>tup_item S' ht (of_decide_eq_true h0) (of_decide_eq_true h1) hv (h s' S') (he tk)⟩)
end
end
section
open PySem.Calls
noncomputable def Dk (xs:List Value):Prop:=∃ ns,IntsAre xs ns∧(∀ i∈ns,(0:Int)≤i)∧xs.length≤25
theorem Dk.fits {xs:List Value} (h:Dk xs):xs.length≤sizeLine:=by obtain ⟨_,_,_,h⟩:=h;exact fits_le (by lia)
theorem Dk.tail {x:Value} {xs:List Value} (h:Dk (x::xs)):Dk xs:=by
  refine ex1 h ?_;clear h;intro _ hy1;refine an3 hy1 ?_;clear hy1;intro h1 h2 h3
  cases h1 with
  | cons i t r=>exact ⟨_,r,fun i hi=>h2 i (.tail _ hi),by rw [List.length_cons] at h3;lia⟩
section
variable {w:World} {c:Cx} {m:Str→Option Value} {own P:Led} {s:Shared} {E:Value→Shared→Prop} {Q:Value→Shared→Prop}
theorem ne_nil0 {D l:Addr} {n e:Nat} (S:St w c m ((D,listOf ([]:List Value).toArray n)::own) P s) (hl:(l,listOf ([]:List Value).toArray e)∈P) (hu:c.A.units + 64 < cLine) (h:Q (.bool false) s) :
    wpAny (model rw_pq1024_01.row.prog w) c.A (compareOp .NotEq (.ref D) (.ref l)) Q E s:=ne_nil S .nil hl hu h
theorem eq_nil0 {D l:Addr} {n e:Nat} (S:St w c m ((D,listOf ([]:List Value).toArray n)::own) P s) (hl:(l,listOf ([]:List Value).toArray e)∈P) (hu:c.A.units + 64 < cLine) (h:Q (.bool true) s) :
    wpAny (model rw_pq1024_01.row.prog w) c.A (compareOp .Eq (.ref D) (.ref l)) Q E s:=eq_nil S .nil hl hu h
theorem ne_nil1 {D l:Addr} {i:Int} {t:Tok} {r:List Value} {ns:List Int} {n e:Nat} (S:St w c m ((D,listOf (.int i t::r).toArray n)::own) P s) (hi:IntsAre r ns) (hl:(l,listOf ([]:List Value).toArray e)∈P) (hu:c.A.units + 64 < cLine) (h:Q (.bool true) s) :
    wpAny (model rw_pq1024_01.row.prog w) c.A (compareOp .NotEq (.ref D) (.ref l)) Q E s:=ne_nil S (.cons i t hi) hl hu h
theorem eq_nil1 {D l:Addr} {i:Int} {t:Tok} {r:List Value} {ns:List Int} {n e:Nat} (S:St w c m ((D,listOf (.int i t::r).toArray n)::own) P s) (hi:IntsAre r ns) (hl:(l,listOf ([]:List Value).toArray e)∈P) (hu:c.A.units + 64 < cLine) (h:Q (.bool false) s) :
    wpAny (model rw_pq1024_01.row.prog w) c.A (compareOp .Eq (.ref D) (.ref l)) Q E s:=eq_nil S (.cons i t hi) hl hu h
theorem own0 {value slice:Expr} {D:Addr} {xs:List Value} {n:Nat} {k:Int} {u:Tok} {v:Value} (S:St w c m ((D,listOf xs.toArray n)::own) P s) (h0:0≤k) (hk:k < 2 ^ 63) (hx:xs[k.toNat]? = some v) (h:Q v s)
    (hs:subscripted slice false (.ref D) (.int k u) = operate [.ref D,.int k u] (getItem (.ref D) (.int k u))) :
    wpAny (model rw_pq1024_01.row.prog w) c.A (subscriptTail value slice (.ref D) (.int k u)) Q E s:=li_item (S.isListO (.head _)) h0 hk hx h hs
theorem log2_small {n:Int} (h:n.natAbs < 1000):n.natAbs.log2 < 9000:=by
  by_cases h0:n.natAbs = 0
  · rw [h0];decide
  · have:=(Nat.log2_lt h0 (k:=9000)).mpr (Nat.lt_of_lt_of_le h (Nat.le_trans (by decide:1000≤2 ^ 10) (Nat.pow_le_pow_right (by decide) (by decide))))
    exact this
theorem modS {a b:Int} {t u:Tok} (S:St w c m own P s) (hb:b≠0) (h:∀ s' tk,St w c m own P s'→Q (.int (a.fmod b) tk) s'):wpAny (model rw_pq1024_01.row.prog w) c.A (binaryOp .Mod (.int a t) (.int b u)) Q E s:=mod_int' hb (h _ _ (S.tok _))
theorem fdivS {a b:Int} {t u:Tok} (S:St w c m own P s) (hb:b≠0) (hl:b.natAbs < 1000) (h:∀ s' tk,St w c m own P s'→Q (.int (a.fdiv b) tk) s'):wpAny (model rw_pq1024_01.row.prog w) c.A (binaryOp .FloorDiv (.int a t) (.int b u)) Q E s:=floordiv_int hb (h _ _ (S.tok _)) (Or.inl (PyProof.noPylong_of_log2 (log2_small hl)))
theorem addS {a b:Int} {t u:Tok} (S:St w c m own P s) (h:∀ s' tk,St w c m own P s'→Q (.int (a + b) tk) s'):wpAny (model rw_pq1024_01.row.prog w) c.A (binaryOp .Add (.int a t) (.int b u)) Q E s:=PySem.P.add_int (h _ _ (S.tok _))
theorem subS {a b:Int} {t u:Tok} (S:St w c m own P s) (h:∀ s' tk,St w c m own P s'→Q (.int (a - b) tk) s'):wpAny (model rw_pq1024_01.row.prog w) c.A (binaryOp .Sub (.int a t) (.int b u)) Q E s:=PySem.P.sub_int (h _ _ (S.tok _))
theorem draw {D:Addr} {xs:List Value} {n:Nat} {many:Int} {u:Tok} (S:St w c m ((D,listOf xs.toArray n)::own) P s) (hk:Dk xs) (h1:0 < many) (h2:many < 1000) (hdp:c.A.depth + 2 < recursionLimit) (hu:c.A.units + 80 < cLine)
    (ret:∀ r tk xs' n' s',St w c m ((D,listOf xs'.toArray n')::own) P s'→Dk xs'→0≤r→r < many→Q (.int r tk) s'):wpAny (model rw_pq1024_01.row.prog w) c.A (call (.ref 519) [.ref D,.int many u]) Q E s:=by
  have X:=S.X
  refine wpAny_call ?_
  refine enterM (K:=hd.heap_39 _) (cells:=[(D,listOf xs.toArray n)]) (rest:=own) (P:=P) (Out:=fun cs P' r=>∃ xs' n' i tk,cs = [(D,listOf xs'.toArray n')]∧Dk xs'∧r = .int i tk∧0≤i∧i < many) rfl S (by k_is) (by k_is) (by lia) (by exact BindsTo.of_eq rfl) (by exact rfl) (by kernel_rfl) ?_ ?_
  · intro c' s' gN hd' hu' S'
    dsimp only [List.map] at S'
    have e1:c'.A.units + 64 < cLine:=by first | exact bl ‹_› ‹_› (by decide) | lia
    clear ret S hdp hu hd' hu'
    try refine (by assumption:Nxt _ _ _ _ _ _ _) _ ?_
    (refine eN ?_;intro _ _ _)
    refine whileR (fun k s=>∃ xs n,k = xs.length∧Dk xs∧St w c' (asg _ [some (.ref D),some (.int many u)]) [(D,listOf xs.toArray n)] P s) ?_ xs.length _ ⟨xs,n,rfl,hk,S'⟩
    clear S' hk
    intro k s1 Qz hqz hx2
    refine ex2 hx2 ?_;clear hx2;intro xs n hy3;refine an3 hy3 ?_;clear hy3;intro hk hD S1
    subst hk
    refine ex1 (id hD) ?_;intro ns hy4;refine an3 hy4 ?_;clear hy4;intro hi h0 hlen
    cases hi with
    | nil =>
      with_reducible (refine isTrue_and ?_;refine wpAny_isTrue_Compare1 ?_ (by k_dflt rfl);refine ev_lv ‹_› ‹_› LocV.a0 ?_;refine List_ ?_;refine sp0 ?_;refine nl ‹_› ?_ sl0;intro _ _ _)
      refine ne_nil0 ‹_› (.head _) e1 ?_
      with_reducible (refine wpAny_truthy_bool ?_;refine ite_ff ?_;refine (by assumption:ImpG _ _) _ _ ?_;refine ite_ff ?_;refine wpAny_execs_nil ?_;refine (by assumption:Nxt _ _ _ _ _ _ _) _ ?_;refine nameQ ?_;intro _ _;refine eN ?_;intro _ _ _;refine If_N ?_;intro _ _;refine wpAny_isTrue_Compare1 ?_ (by k_dflt rfl);refine ev_lv ‹_› ‹_› LocV.a0 ?_;refine List_ ?_;refine sp0 ?_;refine nl ‹_› ?_ sl0;intro _ _ _)
      refine eq_nil0 ‹_› (.head _) e1 ?_
      with_reducible (refine wpAny_truthy_bool ?_;refine (by assumption:ImpG _ _) _ _ ?_;refine ite_tt ?_;refine eA ‹_› ?_;intro _ _ _;refine wpAny_Return_some ?_;refine ev_int ‹_› ?_;intro _ _ _;refine (by assumption:Abr _ _) _ _ (by k_dflt rfl) ?_;refine (by assumption:Abr _ _) _ _ (by k_dflt rfl) ?_;refine (by assumption:Imp _ _) _ _ ?_)
      exact mk4 _ [_] [] P ⟨St.sub ‹_› (by k_places),fun _ h=>h,(by rfl),mk4 _ _ _ _ ⟨rfl,hD,rfl,Int.le_refl 0,h1⟩⟩
    | cons i t r =>
      have i0:=h0 i (.head _)
      with_reducible (refine isTrue_and ?_;refine wpAny_isTrue_Compare1 ?_ (by k_dflt rfl);refine ev_lv ‹_› ‹_› LocV.a0 ?_;refine List_ ?_;refine sp0 ?_;refine nl ‹_› ?_ sl0;intro _ _ _)
      refine ne_nil1 ‹_› r (.head _) e1 ?_
      with_reducible (refine wpAny_truthy_bool ?_;refine ite_tt ?_;refine isTrue_and ?_;refine wpAny_isTrue_Compare1 ?_ (by k_dflt rfl);refine Subscript_ ?_;refine ev_lv ‹_› ‹_› LocV.a0 ?_;refine ev_int ‹_› ?_;intro _ _ _)
      refine own0 ‹_› (by decide) (by decide) rfl ?_ (by k_dflt rfl)
      with_reducible (refine ev_int ‹_› ?_;intro _ _ _)
      refine eq_int ?_
      refine wpAny_truthy_bool ?_
      by_cases hz:i = 0
      · subst hz
        rw [show ((0:Int) == 0) = true from rfl]
        with_reducible (refine ite_tt ?_;refine isTrue_and_nil ?_;refine (by assumption:ImpG _ _) _ _ ?_;refine ite_tt ?_;refine nameQ ?_;intro _ _;refine eN ?_;intro _ _ _;refine wpAny_Expr_any ?_ (by k_dflt rfl) (by k_dflt rfl);refine MethodCall_ ?_ (by k_dflt rfl);refine ev_lv ‹_› ‹_› LocV.a0 ?_;refine lmeth ‹_› (by k_mem) PySem.F.slot_list_pop PySem.F.type_list_pop ?_;refine callWith_method1 ?_ (by k_dflt rfl) (by k_dflt rfl);refine sp1 ?_ (by k_dflt rfl);refine ev_int ‹_› ?_;intro _ _ _;refine sp0 ?_)
        refine pop0 ‹_› hD.fits ?_
        intro s' S'
        with_reducible (refine (by assumption:Nxt _ _ _ _ _ _ _) _ ?_;refine wpAny_execs_nil ?_;refine (by assumption:Imp _ _) _ _ ?_)
        exact mk1 _ ⟨Nat.lt_succ_self _,mk2 _ _ ⟨rfl,hD.tail,St.sub ‹_› (by k_places)⟩⟩
      · rw [show (i == 0) = false from beq_eq_false_iff_ne.mpr hz]
        with_reducible (refine ite_ff ?_;refine (by assumption:ImpG _ _) _ _ ?_;refine ite_ff ?_;refine wpAny_execs_nil ?_;refine (by assumption:Nxt _ _ _ _ _ _ _) _ ?_;refine nameQ ?_;intro _ _;refine eN ?_;intro _ _ _;refine If_N ?_;intro _ _;refine wpAny_isTrue_Compare1 ?_ (by k_dflt rfl);refine ev_lv ‹_› ‹_› LocV.a0 ?_;refine List_ ?_;refine sp0 ?_;refine nl ‹_› ?_ sl0;intro _ _ _)
        refine eq_nil1 ‹_› r (.head _) e1 ?_
        with_reducible (refine wpAny_truthy_bool ?_;refine (by assumption:ImpG _ _) _ _ ?_;refine ite_ff ?_;refine wpAny_execs_nil ?_;refine (by assumption:Nxt _ _ _ _ _ _ _) _ ?_;refine eI ‹_› ?_;intro _ _ _;refine wpAny_Assign_Name ?_ (by k_dflt rfl);refine wpAny_BinOp ?_;refine Subscript_ ?_;refine ev_lv ‹_› ‹_› LocV.a0 ?_;refine ev_int ‹_› ?_;intro _ _ _)
        refine own0 ‹_› (by decide) (by decide) rfl ?_ (by k_dflt rfl)
        with_reducible (refine ev_lv ‹_› ‹_› LocV.a1 ?_)
        refine modS ‹_› (by lia) ?_
        intro s' tk S'
        with_reducible (refine st_loc ‹_› ‹_› ?_;refine SetQ.i (SetL.there (SetL.there (SetL.hereN))) ?_;intro _ _;refine (by assumption:Nxt _ _ _ _ _ _ _) _ ?_;refine eI ‹_› ?_;intro _ _ _;refine wpAny_Assign_Subscript ?_ (by k_dflt rfl);refine wpAny_BinOp ?_;refine Subscript_ ?_;refine ev_lv ‹_› ‹_› LocV.a0 ?_;refine ev_int ‹_› ?_;intro _ _ _)
        refine own0 ‹_› (by decide) (by decide) rfl ?_ (by k_dflt rfl)
        with_reducible (refine ev_lv ‹_› ‹_› LocV.a1 ?_)
        refine fdivS ‹_› (by lia) (by lia) ?_
        intro s' tk S'
        with_reducible (refine ev_lv ‹_› ‹_› LocV.a0 ?_;refine ev_int ‹_› ?_;intro _ _ _)
        refine set0 ‹_› ?_
        intro s' S'
        with_reducible (refine (by assumption:Nxt _ _ _ _ _ _ _) _ ?_;refine eI ‹_› ?_;intro _ _ _;refine wpAny_Return_some ?_;refine ev_lv ‹_› ‹_› LocV.a2 ?_;refine (by assumption:Abr _ _) _ _ (by k_dflt rfl) ?_;refine (by assumption:Imp _ _) _ _ ?_)
        refine mk4 _ [_] [] P ⟨St.sub ‹_› (by k_places),fun _ h=>h,(by rfl),mk4 _ _ _ _ ⟨rfl,⟨_,IntsAre.cons _ _ r,fun j hj=>?_,(by exact hlen)⟩,rfl,?_,?_⟩⟩
        · rcases List.mem_cons.mp hj with rfl | hj
          · rw [Int.fdiv_eq_ediv_of_nonneg _ (by lia)];exact Int.ediv_nonneg i0 (by lia)
          · exact h0 j (.tail _ hj)
        · rw [Int.fmod_eq_emod_of_nonneg _ (by lia)];exact Int.emod_nonneg _ (by lia)
        · rw [Int.fmod_eq_emod_of_nonneg _ (by lia)];exact Int.emod_lt_of_pos _ h1
  · intro r cells' P' s' S' hc hs ho
    refine ex4 ho ?_;clear ho;intro xs' n' i tk hy7;refine an5 hy7 ?_;clear hy7;intro hx5 hD hx6 h3 h4
    symm at hx5;subst hx5
    symm at hx6;subst hx6
    exact ret _ _ _ _ _ (S'.sub hs) hD h3 h4
end
end
section
open PySem.Calls
theorem bt_len:bootBuiltins (Str.ofString "len") = some (.builtin "len"):=by boot_by_name
theorem bt_ne_len:(Str.ofString "len")≠"__name__":=by decide
section
variable {w:World} {c:Cx} {m:Str→Option Value} {own P:Led} {s:Shared} {E:Value→Shared→Prop} {Q:Value→Shared→Prop}
theorem set1 {D:Addr} {x y:Value} {r:List Value} {n:Nat} {t:Tok} {v:Value} {Q:Unit→Shared→Prop} (S:St w c m ((D,listOf (x::y::r).toArray n)::own) P s)
    (h:∀ s',St w c m ((D,listOf (x::v::r).toArray n)::own) P s'→Q () s'):wpAny (model rw_pq1024_01.row.prog w) c.A (PySem.setItem (.ref D) (.int 1 t) v) Q E s:=setAt S (by decide) (by decide) (by simp) h
theorem len_P {l:Addr} {xs:List Value} {e:Nat} (S:St w c m own P s) (hl:(l,listOf xs.toArray e)∈P) (hz:xs.length≤1000000) (h:∀ s' tk,St w c m own P s'→Q (.int (xs.length:Nat) tk) s') :
    wpAny (model rw_pq1024_01.row.prog w) c.A (call (.builtin "len") [.ref l]) Q E s:=len_list (S.isListP hl) (by simp;lia) (by
      have:=h _ (s.toks + 1) (S.tok (s.toks + 1 + 1))
      simpa using this)
theorem len_O {l:Addr} {xs:List Value} {e:Nat} (S:St w c m own P s) (hl:(l,listOf xs.toArray e)∈own) (hz:xs.length≤1000000) (h:∀ s' tk,St w c m own P s'→Q (.int (xs.length:Nat) tk) s') :
    wpAny (model rw_pq1024_01.row.prog w) c.A (call (.builtin "len") [.ref l]) Q E s:=len_list (S.isListO hl) (by simp;lia) (by
      have:=h _ (s.toks + 1) (S.tok (s.toks + 1 + 1))
      simpa using this)
end
section
variable {w:World} {c:Cx} {m:Str→Option Value} {own P:Led} {s:Shared} {E:Value→Shared→Prop} {Q:Value→Shared→Prop}
theorem new0 {D:Addr} {a b:Int} {t1 t2 u:Tok} {n:Nat} (S:St w c m ((D,listOf [.int a t1,.int b t2].toArray n)::own) P s) (hdp:c.A.depth + 1 < recursionLimit) (hu:c.A.units + 80 < cLine)
    (ret:∀ tk tk' n' s',St w c m ((D,listOf [.int (a + 1) tk',.int b t2].toArray n')::own) P s'→Q (.int (a + 1) tk) s'):wpAny (model rw_pq1024_01.row.prog w) c.A (call (.ref 538) [.ref D,.int 0 u]) Q E s:=by
  have X:=S.X
  refine wpAny_call ?_
  refine enterM (K:=hd.heap_39 _) (cells:=[(D,listOf [.int a t1,.int b t2].toArray n)]) (rest:=own) (P:=P) (Out:=fun cs P' r=>∃ n' tk tk',cs = [(D,listOf [.int (a + 1) tk',.int b t2].toArray n')]∧r = .int (a + 1) tk) rfl S (by k_is) (by k_is) (by lia) (by exact BindsTo.of_eq rfl) (by exact rfl) (by kernel_rfl) ?_ ?_
  · intro c' s' gN hd' hu' S'
    dsimp only [List.map] at S'
    clear ret S hdp hu hd' hu'
    with_reducible (refine nameQ ?_;intro _ _;refine eN ?_;intro _ _ _;refine wpAny_Assign_Subscript ?_ (by k_dflt rfl);refine wpAny_BinOp ?_;refine Subscript_ ?_;refine ev_lv ‹_› ‹_› LocV.a0 ?_;refine ev_lv ‹_› ‹_› LocV.a1 ?_;refine own0 ‹_› (by decide) (by decide) (by k_dflt rfl) ?_ (by k_dflt rfl);refine ev_int ‹_› ?_;intro _ _ _;refine addS ‹_› ?_;intro _ _ _;refine ev_lv ‹_› ‹_› LocV.a0 ?_;refine ev_lv ‹_› ‹_› LocV.a1 ?_;refine set0 ‹_› ?_;intro _ _;refine (by assumption:Nxt _ _ _ _ _ _ _) _ ?_;refine eI ‹_› ?_;intro _ _ _;refine wpAny_Return_some ?_;refine Subscript_ ?_;refine ev_lv ‹_› ‹_› LocV.a0 ?_;refine ev_lv ‹_› ‹_› LocV.a1 ?_;refine own0 ‹_› (by decide) (by decide) (by k_dflt rfl) ?_ (by k_dflt rfl);refine (by assumption:Abr _ _) _ _ (by k_dflt rfl) ?_;refine (by assumption:Imp _ _) _ _ ?_)
    refine mk4 _ [_] [] P ⟨St.sub ‹_› (by k_places),fun _ h=>h,(by rfl),mk3 _ _ _ ⟨rfl,rfl⟩⟩
  · intro r cells' P' s' S' hc hs ho
    refine ex3 ho ?_;clear ho;intro n' tk tk' hy3;refine an2 hy3 ?_;clear hy3;intro hx1 hx2
    symm at hx1;subst hx1
    symm at hx2;subst hx2
    exact ret _ _ _ _ (S'.sub hs)
theorem new1 {D:Addr} {a b:Int} {t1 t2 u:Tok} {n:Nat} (S:St w c m ((D,listOf [.int a t1,.int b t2].toArray n)::own) P s) (hdp:c.A.depth + 1 < recursionLimit) (hu:c.A.units + 80 < cLine)
    (ret:∀ tk tk' n' s',St w c m ((D,listOf [.int a t1,.int (b + 1) tk'].toArray n')::own) P s'→Q (.int (b + 1) tk) s'):wpAny (model rw_pq1024_01.row.prog w) c.A (call (.ref 538) [.ref D,.int 1 u]) Q E s:=by
  have X:=S.X
  refine wpAny_call ?_
  refine enterM (K:=hd.heap_39 _) (cells:=[(D,listOf [.int a t1,.int b t2].toArray n)]) (rest:=own) (P:=P) (Out:=fun cs P' r=>∃ n' tk tk',cs = [(D,listOf [.int a t1,.int (b + 1) tk'].toArray n')]∧r = .int (b + 1) tk) rfl S (by k_is) (by k_is) (by lia) (by exact BindsTo.of_eq rfl) (by exact rfl) (by kernel_rfl) ?_ ?_
  · intro c' s' gN hd' hu' S'
    dsimp only [List.map] at S'
    clear ret S hdp hu hd' hu'
    with_reducible (refine nameQ ?_;intro _ _;refine eN ?_;intro _ _ _;refine wpAny_Assign_Subscript ?_ (by k_dflt rfl);refine wpAny_BinOp ?_;refine Subscript_ ?_;refine ev_lv ‹_› ‹_› LocV.a0 ?_;refine ev_lv ‹_› ‹_› LocV.a1 ?_;refine own0 ‹_› (by decide) (by decide) (by k_dflt rfl) ?_ (by k_dflt rfl);refine ev_int ‹_› ?_;intro _ _ _;refine addS ‹_› ?_;intro _ _ _;refine ev_lv ‹_› ‹_› LocV.a0 ?_;refine ev_lv ‹_› ‹_› LocV.a1 ?_;refine set1 ‹_› ?_;intro _ _;refine (by assumption:Nxt _ _ _ _ _ _ _) _ ?_;refine eI ‹_› ?_;intro _ _ _;refine wpAny_Return_some ?_;refine Subscript_ ?_;refine ev_lv ‹_› ‹_› LocV.a0 ?_;refine ev_lv ‹_› ‹_› LocV.a1 ?_;refine own0 ‹_› (by decide) (by decide) (by k_dflt rfl) ?_ (by k_dflt rfl);refine (by assumption:Abr _ _) _ _ (by k_dflt rfl) ?_;refine (by assumption:Imp _ _) _ _ ?_)
    refine mk4 _ [_] [] P ⟨St.sub ‹_› (by k_places),fun _ h=>h,(by rfl),mk3 _ _ _ ⟨rfl,rfl⟩⟩
  · intro r cells' P' s' S' hc hs ho
    refine ex3 ho ?_;clear ho;intro n' tk tk' hy6;refine an2 hy6 ?_;clear hy6;intro hx4 hx5
    symm at hx4;subst hx4
    symm at hx5;subst hx5
    exact ret _ _ _ _ (S'.sub hs)
theorem one {D it:Addr} {xs vs:List Value} {n e:Nat} {ns:List Int} (S:St w c m ((D,listOf xs.toArray n)::own) P s) (hk:Dk xs) (hit:(it,listOf vs.toArray e)∈P) (hi:IntsAre vs ns) (h1:0 < vs.length) (h2:vs.length < 1000) (hdp:c.A.depth + 3 < recursionLimit) (hu:c.A.units + 90 < cLine)
    (ret:∀ r tk xs' n' s',St w c m ((D,listOf xs'.toArray n')::own) P s'→Dk xs'→r∈ns→Q (.int r tk) s'):wpAny (model rw_pq1024_01.row.prog w) c.A (call (.ref 531) [.ref D,.ref it]) Q E s:=by
  have X:=S.X
  refine wpAny_call ?_
  refine enterM (K:=hd.heap_39 _) (cells:=[(D,listOf xs.toArray n)]) (rest:=own) (P:=P) (Out:=fun cs P' r=>∃ xs' n' i tk,cs = [(D,listOf xs'.toArray n')]∧Dk xs'∧r = .int i tk∧i∈ns) rfl S (by k_is) (by k_is) (by lia) (by exact BindsTo.of_eq rfl) (by exact rfl) (by kernel_rfl) ?_ ?_
  · intro c' s' gN hd' hu' S'
    dsimp only [List.map] at S'
    have e1:c'.A.depth + 2 < recursionLimit:=by first | exact bl ‹_› ‹_› (by decide) | lia
    have e2:c'.A.units + 80 < cLine:=by first | exact bl ‹_› ‹_› (by decide) | lia
    clear ret S hdp hu hd' hu'
    with_reducible (refine nameQ ?_;intro _ _;refine eN ?_;intro _ _ _;refine wpAny_Return_some ?_;refine Subscript_ ?_;refine ev_lv ‹_› ‹_› LocV.a1 ?_;refine call2 ‹_› ‹_› (g_law_draw _) (kp_law_draw _) mm2 ?_ (by k_dflt rfl) (by k_dflt rfl);refine ev_lv ‹_› ‹_› LocV.a0 ?_;refine callB1 ‹_› ‹_› (gn_len _) bt_len bt_ne_len mm3 ?_ (by k_dflt rfl);refine ev_lv ‹_› ‹_› LocV.a1 ?_)
    refine len_P ‹_› hit (by lia) ?_
    intro s' tk S'
    with_reducible (refine And.intro (St.kin ‹_›) ?_)
    refine draw ‹_› hk (by lia) (by lia) e1 e2 ?_
    intro i tk xs' n' s' S' hD h3 h4
    obtain ⟨v,hv⟩:∃ v,vs[i.toNat]? = some v:=⟨vs[i.toNat]'(by lia),by simp⟩
    refine ex2 (hi.at _ _ hv) ?_;intro j u hy8;refine an2 hy8 ?_;clear hy8;intro hx7 hj
    symm at hx7;subst hx7
    refine li_item (S'.isListP hit) h3 (by lia) hv ?_ (by k_dflt rfl)
    with_reducible (refine (by assumption:Abr _ _) _ _ (by k_dflt rfl) ?_;refine (by assumption:Imp _ _) _ _ ?_)
    refine mk4 _ [_] [] P ⟨S',fun _ h=>h,(by rfl),mk4 _ _ _ _ ⟨rfl,hD,rfl,List.mem_of_getElem? hj⟩⟩
  · intro r cells' P' s' S' hc hs ho
    refine ex4 ho ?_;clear ho;intro xs' n' i tk hy11;refine an4 hy11 ?_;clear hy11;intro hx9 hD hx10 h3
    symm at hx9;subst hx9
    symm at hx10;subst hx10
    exact ret _ _ _ _ _ (S'.sub hs) hD h3
end
end
section
open PySem.Calls
noncomputable def Itr (w:World) (c:Cx) (target:Expr) (own P:Led) (I:Addr) (s:Shared) (n:Nat) (Pt:Nat→Value→Heap→Prop):Prop :=
  ∃ (fp wr:List Addr) (Md:Nat→Value→Heap→Prop) (Z:Nat→Heap→Prop),KTurns PR w c.A target I fp wr n Pt Md Z∧Z 0 s.heap∧wr.Nodup∧(∀ i h,Z i h→∀ b∈fp,∃ o,h.get? b = some o) ∧
    (∀ b∈wr,c.g.get? b = none∧∀ q∈own ++ P,q.1≠b)∧(∀ b∈fp,b≠c.L∧b < s.heap.objs.size∧∀ q∈own,q.1≠b) ∧
    ∀ (i:Nat) (s':Shared) (Q:Value→Shared→Prop) (E:Value→Shared→Prop),Z i s'.heap→Q (.ref I) s'→wpAny (model rw_pq1024_01.row.prog w) c.A (pyIter (.ref I)) Q E s'
noncomputable def wrObjs (wr:List Addr) (h:Heap):Led:=wr.filterMap fun b=>(h.get? b).map fun o=>(b,o)
theorem mem_wrObjs {wr:List Addr} {h:Heap} {p:Addr × Obj}:p∈wrObjs wr h ↔ p.1∈wr∧h.get? p.1 = some p.2:=by
  unfold wrObjs
  rw [List.mem_filterMap]
  constructor
  · intro hx1
    refine ex1 hx1 ?_;clear hx1;intro b hy2;refine an2 hy2 ?_;clear hy2;intro hb e
    cases hq:h.get? b with
    | none=>rw [hq] at e;cases e
    | some o=>rw [hq] at e;cases e;exact ⟨hb,hq⟩
  · intro hx3
    refine an2 hx3 ?_;clear hx3;intro hb e
    exact mk1 p.1 ⟨hb,by rw [e];rfl⟩
theorem wrObjs_nodup {wr:List Addr} {h:Heap} (hn:wr.Nodup):((wrObjs wr h).map (·.1)).Nodup:=by
  induction wr with
  | nil=>exact List.nodup_nil
  | cons b r ih =>
    have hb:=List.nodup_cons.mp hn
    unfold wrObjs
    rw [List.filterMap_cons]
    cases hq:h.get? b with
    | none=>exact ih hb.2
    | some o =>
      refine List.nodup_cons.mpr ⟨fun hm=>?_,ih hb.2⟩
      refine ex1 (List.mem_map.mp hm) ?_;intro p hy4;refine an2 hy4 ?_;clear hy4;intro hp e
      have:=(mem_wrObjs (wr:=r) (h:=h)).mp hp
      exact hb.1 (by have e':p.1 = b:=e;rw [← e'];exact this.1)
section
variable {w:World} {c:Cx} {m:Str→Option Value} {own P:Led} {s:Shared} {E:Value→Shared→Prop}
/-- the state during a turn: the iterator's own objects stand last among the changing cells,its source among the facts -/
theorem turn_St {s₀:Shared} {wr fp:List Addr} {m₁:Str→Option Value} {own₁ P₁:Led} {s₁:Shared} {nw:Led} (_S:St w c m own P s₀) (hw:wr.Nodup) (hsub:∀ b∈wr,b∈fp) (hfp:∀ b∈fp,b≠c.L∧∀ q∈own₁,q.1≠b) (hwP:∀ p∈P₁,p.1 ∉ wr)
    (hwn:∀ b∈wr,c.g.get? b = none) (F:Fr c.g c.L s₁.heap m₁) (N:News c.g c.L s₁.heap (own₁ ++ P₁)) (ap:Apart own₁ P₁) (nd:(own₁.map (·.1)).Nodup) (N2:∀ p∈nw,p.1∈fp∧s₁.heap.get? p.1 = some p.2∧c.g.get? p.1 = none)
    (eg:s₁.gens = s₀.gens) (ed:s₁.drawn = s₀.drawn) (eo:s₁.os = s₀.os) :
    St w c m₁ (own₁ ++ wrObjs wr s₁.heap) (nw.filter (fun p=>decide (p.1 ∉ wr)) ++ P₁) s₁:=by
  refine ⟨F,fun p hp=>?_,fun q hq p hp=>?_,?_,_S.X,_S.T,_S.B,_S.hh,_S.fr,eg.trans _S.eg,ed.trans _S.ed,eo.trans _S.eo⟩
  · rcases List.mem_append.mp hp with hp | hp
    · rcases List.mem_append.mp hp with hp | hp
      · exact N p (List.mem_append_left _ hp)
      · have:=mem_wrObjs.mp hp
        exact ⟨this.2,(hfp _ (hsub _ this.1)).1,hwn _ this.1⟩
    · rcases List.mem_append.mp hp with hp | hp
      · have:=N2 p (List.mem_filter.mp hp).1
        exact ⟨this.2.1,(hfp _ this.1).1,this.2.2⟩
      · exact N p (List.mem_append_right _ hp)
  · rcases List.mem_append.mp hq with hq | hq
    · rcases List.mem_append.mp hp with hp | hp
      · exact fun e=>(hfp _ (N2 p (List.mem_filter.mp hp).1).1).2 q hq e.symm
      · exact ap q hq p hp
    · have h1:=mem_wrObjs.mp hq
      rcases List.mem_append.mp hp with hp | hp
      · have h2:=(List.mem_filter.mp hp).2
        exact fun e=>by
          have h2':p.1 ∉ wr:=by simpa using h2
          exact h2' (e ▸ h1.1)
      · exact fun e=>hwP p hp (e ▸ h1.1)
  · rw [List.map_append]
    refine List.nodup_append.mpr ⟨nd,wrObjs_nodup hw,fun a ha b hb e=>?_⟩
    refine ex1 (List.mem_map.mp ha) ?_;intro q hy6;refine an2 hy6 ?_;clear hy6;intro hq hx5
    symm at hx5;subst hx5
    refine ex1 (List.mem_map.mp hb) ?_;intro p hy8;refine an2 hy8 ?_;clear hy8;intro hp hx7
    symm at hx7;subst hx7
    exact (hfp _ (hsub _ (mem_wrObjs.mp hp).1)).2 q hq e
theorem for_St {env:Env} (henv:env.locals = c.L) {target:Expr} {body:List Stmt} {Q:Flow→Shared→Prop} {I:Addr} {n:Nat} {Pt:Nat→Value→Heap→Prop} (S:St w c m own P s) (hI:Itr w c target own P I s n Pt)
    (J:Nat→(Str→Option Value)→Led→Led→Prop) (h0:J 0 m own P)
    (step:∀ i v m₁ own₁ P₁ P₁' W s₁,i < n→Pt i v s₁.heap→J i m₁ own₁ P₁→St w c m₁ (own₁ ++ W) P₁' s₁→(∀ p∈P₁,p∈P₁') →
      wpAny (model rw_pq1024_01.row.prog w) c.A (assign target env v) (fun _ s₂=>wpAny (model rw_pq1024_01.row.prog w) c.A (execs body env) (fun f s₃=>match f with
        | .ret v=>Q (.ret v) s₃
        | .brk=>Q .next s₃
        | _=>∃ m₂ own₂ P₂,St w c m₂ (own₂ ++ W) P₂ s₃∧(∀ p∈P₁',p∈P₂)∧J (i + 1) m₂ own₂ P₂) E s₂) E s₁)
    (fin:∀ m' own' P' s',St w c m' own' P' s'→J n m' own' P'→Q .next s') :
    TurnsAt rw_pq1024_01.row.prog w c.A c.g env target body Q E (.ref I) s:=by
  refine ex4 hI ?_;clear hI;intro fp wr Md Z hy9;refine an7 hy9 ?_;clear hy9;intro W hz hnd hio hwr hfp _
  refine mk10 I fp wr n Pt Md Z m (own ++ P) (fun i m₁ news=>∃ own₁ P₁,news = own₁ ++ P₁∧Apart own₁ P₁∧(own₁.map (·.1)).Nodup∧(∀ b∈fp,∀ q∈own₁,q.1≠b)∧J i m₁ own₁ P₁) ⟨rfl,W,by rw [henv];exact fun h=>(hfp _ h).1 rfl,fun b hb=>(hwr b hb).1,fun p hp hb=>(hwr _ hb).2 p hp rfl,hz,by rw [henv];exact S.F,by rw [henv];exact S.N,⟨own,P,rfl,S.ap,S.nd,fun b hb q hq=>(hfp b hb).2.2 q hq,h0⟩,?_,?_⟩
  · intro i v m₁ news₁ h₁ tk₁ nw hi hP hx10
    refine ex2 hx10 ?_;clear hx10;intro own₁ P₁ hy12;refine an5 hy12 ?_;clear hy12;intro hx11 ap nd hof hJ
    symm at hx11;subst hx11
    intro hnw hn1 hn2 hn3 hst F N
    rw [henv] at F N
    have Nr:News c.g c.L h₁ (own₁ ++ P₁):=fun p hp=>N p (List.mem_append_right _ hp)
    have N2:∀ p∈nw,p.1∈fp∧h₁.get? p.1 = some p.2∧c.g.get? p.1 = none:=fun p hp=>⟨hn1 p hp,hn2 p hp,(N p (List.mem_append_left _ hp)).2.2⟩
    have S₁:=turn_St (s₁:={ s with heap:=h₁,toks:=tk₁ }) S hnd W.sub (fun b hb=>⟨(hfp b hb).1,hof b hb⟩) (fun p hp=>hnw p (List.mem_append_right _ hp)) (fun b hb=>(hwr b hb).1) F Nr ap nd N2 rfl rfl rfl
    refine wpAny_mono (step i v m₁ own₁ P₁ _ _ _ hi hP hJ S₁ (fun p hp=>List.mem_append_right _ hp)) (fun _ s₂ h₂=>wpAny_mono h₂ (fun f s₃ h₃=>?_) fun _ _ e=>e) fun _ _ e=>e
    have done:(∃ m₂ own₂ P₂,St w c m₂ (own₂ ++ wrObjs wr h₁) P₂ s₃∧(∀ p∈nw.filter (fun p=>decide (p.1 ∉ wr)) ++ P₁,p∈P₂)∧J (i + 1) m₂ own₂ P₂) →
        LoopStepU c.g env.locals wr nw (fun m' news=>∃ own₁ P₁,news = own₁ ++ P₁∧Apart own₁ P₁∧(own₁.map (·.1)).Nodup∧(∀ b∈fp,∀ q∈own₁,q.1≠b)∧J (i + 1) m' own₁ P₁) { s with heap:=h₁,toks:=tk₁ } .next s₃:=by
      intro hx13
      refine ex3 hx13 ?_;clear hx13;intro m₂ own₂ P₂ hy14;refine an3 hy14 ?_;clear hy14;intro S₂ hs₂ hJ₂
      have e3:s₃ = { ({ s with heap:=h₁,toks:=tk₁ }:Shared) with heap:=s₃.heap,toks:=s₃.toks }:=by
        have h1:=S₂.eg.trans S.eg.symm
        have h2:=S₂.ed.trans S.ed.symm
        have h3:=S₂.eo.trans S.eo.symm
        cases s₃
        dsimp only at h1 h2 h3
        subst h1 h2 h3
        rfl
      have nwOk:∀ p∈nw,p∈(own₂ ++ wrObjs wr h₁) ++ P₂:=fun p hp=>by
        by_cases hb:p.1∈wr
        · exact List.mem_append_left _ (List.mem_append_right _ (mem_wrObjs.mpr ⟨hb,hn2 p hp⟩))
        · exact List.mem_append_right _ (hs₂ _ (List.mem_append_left _ (List.mem_filter.mpr ⟨hp,by simpa using hb⟩)))
      have nd2:=S₂.nd
      rw [List.map_append] at nd2
      have nd3:=List.nodup_append.mp nd2
      refine ⟨rfl,mk4 s₃.heap s₃.toks m₂ (own₂ ++ P₂) ⟨e3,by rw [henv];exact S₂.F,?_,?_,mk2 own₂ P₂ ⟨rfl,fun q hq=>S₂.ap q (List.mem_append_left _ hq),nd3.1,?_,hJ₂⟩⟩⟩
      · rw [henv]
        intro p hp
        rcases List.mem_append.mp hp with hp | hp
        · exact S₂.N p (nwOk p hp)
        · rcases List.mem_append.mp hp with hp | hp
          · exact S₂.N p (List.mem_append_left _ (List.mem_append_left _ hp))
          · exact S₂.N p (List.mem_append_right _ hp)
      · intro p hp hb
        refine ex1 (hio _ _ hst _ (W.sub _ hb)) ?_;intro o ho
        have hmem:(p.1,o)∈wrObjs wr h₁:=mem_wrObjs.mpr ⟨hb,ho⟩
        rcases List.mem_append.mp hp with hp | hp
        · exact nd3.2.2 p.1 (List.mem_map_of_mem hp) p.1 (List.mem_map.mpr ⟨_,hmem,rfl⟩) rfl
        · exact S₂.ap _ (List.mem_append_right _ hmem) p hp rfl
      · intro b hb q hq e
        have hq0:=(S₂.N q (List.mem_append_left _ (List.mem_append_left _ hq))).2.2
        rw [e] at hq0
        by_cases hbw:b∈wr
        · refine ex1 (hio _ _ hst _ (W.sub _ hbw)) ?_;intro o ho
          have hmem:(b,o)∈wrObjs wr h₁:=mem_wrObjs.mpr ⟨hbw,ho⟩
          exact nd3.2.2 q.1 (List.mem_map_of_mem hq) b (List.mem_map.mpr ⟨_,hmem,rfl⟩) e
        · cases hg:h₁.get? b with
          | none =>
            refine ex1 (hio _ _ hst _ hb) ?_;intro o ho
            rw [hg] at ho;cases ho
          | some o =>
            have:=hs₂ _ (List.mem_append_left _ (List.mem_filter.mpr ⟨hn3 b hb hq0 o hg,by simpa using hbw⟩))
            exact S₂.ap q (List.mem_append_left _ hq) _ this e.symm
    cases f with
    | ret v=>exact h₃
    | brk=>exact h₃
    | cont=>exact done h₃
    | next=>exact done h₃
  · intro h' tk m' news' F N hnw hx15
    refine ex2 hx15 ?_;clear hx15;intro own₁ P₁ hy17;refine an5 hy17 ?_;clear hy17;intro hx16 ap nd hof hJ
    symm at hx16;subst hx16
    rw [henv] at F N
    exact fin m' own₁ P₁ _ (S.same F N ap nd) hJ
end
end
section
open PySem.Calls
theorem zz1 (b n:Nat) (h:b = n + 4∨b = n + 3∨b = n∨b = n + 1):n≤b:=by lia
theorem zz2 (b n l1 l2:Nat) (h:b = n + 4∨b = n + 2∨b = n + 3∨b = n∨b = n + 1∨b = l1∨b = l2):(n≤b∧b < n + 5)∨b = l1∨b = l2:=by lia
theorem zz3 (n:Nat):[n + 4,n + 3,n,n + 1].Nodup:=by
  simp only [List.nodup_cons,List.mem_cons,List.not_mem_nil,or_false,not_or,not_false_eq_true,List.nodup_nil,and_true]
  lia
theorem Itr.mk' {w:World} {c:Cx} {target:Expr} {own P:Led} {I:Addr} {s:Shared} {n:Nat} {Pt:Nat→Value→Heap→Prop} {fp wr:List Addr} {Md:Nat→Value→Heap→Prop} {Z:Nat→Heap→Prop} (W:KTurns PR w c.A target I fp wr n Pt Md Z)
    (self:∀ (i:Nat) (s':Shared) (Q:Value→Shared→Prop) (E:Value→Shared→Prop),Z i s'.heap→Q (.ref I) s'→wpAny (model rw_pq1024_01.row.prog w) c.A (pyIter (.ref I)) Q E s')
    (hz:Z 0 s.heap) (hnd:wr.Nodup) (hio:∀ i h,Z i h→∀ b∈fp,∃ o,h.get? b = some o) (hwr:∀ b∈wr,c.g.get? b = none∧∀ q∈own ++ P,q.1≠b) (hfp:∀ b∈fp,b≠c.L∧b < s.heap.objs.size∧∀ q∈own,q.1≠b):Itr w c target own P I s n Pt :=
  ⟨fp,wr,Md,Z,W,hz,hnd,hio,hwr,hfp,self⟩
section
variable {w:World} {c:Cx} {m:Str→Option Value} {own P:Led} {s:Shared} {E:Value→Shared→Prop} {Q:Value→Shared→Prop}
theorem St.lo (S:St w c m own P s):c.L < s.heap.objs.size:=S.F.ns.lt
theorem St.freshG (S:St w c m own P s) {b:Addr} (h:s.heap.objs.size≤b):c.g.get? b = none:=ktu_new S.F h
theorem St.below (S:St w c m own P s):∀ q∈own ++ P,q.1 < s.heap.objs.size:=fun q hq=>Heap.lt_size (S.N q hq).1
theorem St.push (S:St w c m own P s) (o:Obj):St w c m own P { s with heap:=s.heap.push o } :=
  S.same (tk:=s.toks) (S.F.push _) (fun p hp=>⟨Heap.get?_push_of_some _ (S.N p hp).1,(S.N p hp).2⟩) S.ap S.nd
theorem src_list {target:Expr} {ax:Addr} {vs:List Value} {e:Nat} (S:St w c m own P s) (hl:(ax,listOf vs.toArray e)∈P)
    (h:∀ I s',St w c m own P s'→Itr w c target own P I s' vs.length (fun i v _=>vs[i]? = some v)→Q (.ref I) s'):wpAny (model rw_pq1024_01.row.prog w) c.A (pyIter (.ref ax)) Q E s:=by
  have hax:=S.inP hl
  have hlt:ax < s.heap.objs.size:=Heap.lt_size hax
  have hne:ax≠s.heap.objs.size:=Nat.ne_of_lt hlt
  refine wpAny_pyIter_list (S.isListP hl) ?_
  have W:=Walks.list (prog:=PR) (w:=w) S.hh s.heap.objs.size ax hne vs.toArray
  have W':=KTurns.ofWalks (target:=target) W (fun i v s Q E st q=>letGo_listiter st.1 q)
  simp only [List.getElem?_toArray,List.size_toArray] at W'
  refine h _ _ (S.push _) (Itr.mk' W' (fun i s' Q E=>W.self i s' Q E) ?_ ?_ ?_ ?_ ?_)
  · exact ⟨⟨_,Heap.get?_push_size _ rfl,rfl,rfl⟩,(S.isListP hl).at fun o e=>Heap.get?_push_of_some _ e⟩
  · simp
  · intro i h st b hb
    have hb':b = s.heap.objs.size∨b = ax:=by simpa using hb
    rcases hb' with rfl | rfl
    · obtain ⟨o,e,_⟩:=st.1;exact ⟨o,e⟩
    · obtain ⟨o,e,_⟩:=st.2;exact ⟨o,e⟩
  · intro b hb
    have hb':b = s.heap.objs.size:=by simpa using hb
    subst hb'
    exact ⟨S.freshG (Nat.le_refl _),fun q hq=>Nat.ne_of_lt (S.below q hq)⟩
  · intro b hb
    show _∧b < (s.heap.push _).objs.size∧_
    rw [Heap.size_push]
    have hb':b = s.heap.objs.size∨b = ax:=by simpa using hb
    rcases hb' with rfl | rfl
    · exact ⟨Nat.ne_of_gt S.lo,Nat.lt_succ_self _,fun q hq=>Nat.ne_of_lt (S.below q (List.mem_append_left _ hq))⟩
    · exact ⟨(S.N _ (List.mem_append_right _ hl)).2.1,Nat.lt_succ_of_lt hlt,fun q hq=>Ne.symm (S.ap q hq _ hl)⟩
theorem src_tup {target:Expr} {ax:Addr} {vs:List Value} {e:Nat} (S:St w c m own P s) (hl:(ax,tupOf vs e)∈P)
    (h:∀ I s',St w c m own P s'→Itr w c target own P I s' vs.length (fun i v _=>vs[i]? = some v)→Q (.ref I) s'):wpAny (model rw_pq1024_01.row.prog w) c.A (pyIter (.ref ax)) Q E s:=by
  have hax:=S.inP hl
  have ht:s.heap.IsTuple ax vs.toArray:=⟨_,hax,rfl,_,rfl⟩
  have hlt:ax < s.heap.objs.size:=Heap.lt_size hax
  have hne:ax≠s.heap.objs.size:=Nat.ne_of_lt hlt
  refine wpAny_pyIter_tuple ht ?_
  have W:=Walks.tuple (prog:=PR) (w:=w) S.hh s.heap.objs.size ax hne vs.toArray
  have W':=KTurns.ofWalks (target:=target) W (fun i v s Q E st q=>letGo_tupleiter st.1 q)
  simp only [List.getElem?_toArray,List.size_toArray] at W'
  refine h _ _ (S.push _) (Itr.mk' W' (fun i s' Q E=>W.self i s' Q E) ?_ ?_ ?_ ?_ ?_)
  · exact ⟨⟨_,Heap.get?_push_size _ rfl,rfl,rfl⟩,ht.at fun o e=>Heap.get?_push_of_some _ e⟩
  · simp
  · intro i h st b hb
    have hb':b = s.heap.objs.size∨b = ax:=by simpa using hb
    rcases hb' with rfl | rfl
    · obtain ⟨o,e,_⟩:=st.1;exact ⟨o,e⟩
    · obtain ⟨o,e,_⟩:=st.2;exact ⟨o,e⟩
  · intro b hb
    have hb':b = s.heap.objs.size:=by simpa using hb
    subst hb'
    exact ⟨S.freshG (Nat.le_refl _),fun q hq=>Nat.ne_of_lt (S.below q hq)⟩
  · intro b hb
    show _∧b < (s.heap.push _).objs.size∧_
    rw [Heap.size_push]
    have hb':b = s.heap.objs.size∨b = ax:=by simpa using hb
    rcases hb' with rfl | rfl
    · exact ⟨Nat.ne_of_gt S.lo,Nat.lt_succ_self _,fun q hq=>Nat.ne_of_lt (S.below q (List.mem_append_left _ hq))⟩
    · exact ⟨(S.N _ (List.mem_append_right _ hl)).2.1,Nat.lt_succ_of_lt hlt,fun q hq=>Ne.symm (S.ap q hq _ hl)⟩
theorem letGo_rangeiter {M:Model} {A:Around} {target:Expr} {I:Addr} {x l st:Int} {v:Value} {Q':Unit→Shared→Prop} {s':Shared} (hit:IsRangeIter s'.heap I x l st) (h:Q' () s') :
    wpAny M A (letOwnedTupleGo target (.ref I) v) Q' E s':=by
  unfold letOwnedTupleGo
  cases target <;> first
    | exact wpAny_pure h
    | (cases v <;> first
        | exact wpAny_pure h
        | (refine wpAny_bind (wpAny_load hit ?_)
           dsimp only
           rw [if_neg (by simp)]
           exact wpAny_pure h))
theorem small_range {a b:Int} (h0:0≤a) (hab:a≤b) (hb:b < 2 ^ 40):Builtin.Range.rangeSize a b 1 = b - a∧Builtin.Range.small a b 1 = true:=by
  have e:Builtin.Range.rangeSize a b 1 = b - a:=by
    unfold Builtin.Range.rangeSize
    split <;> lia
  refine ⟨e,?_⟩
  unfold Builtin.Range.small
  rw [e]
  unfold Builtin.Range.rangeFitsLong
  simp
  lia
theorem src_range {target:Expr} {r:Addr} {a b:Int} {t u v:Tok} {k:Nat} (S:St w c m own P s) (hr:IsRange s.heap r a b 1 t u v) (h0:0≤a) (hk:b - a = (k:Nat)) (hb:b < 2 ^ 40)
    (h:∀ I s',St w c m own P s'→Itr w c target own P I s' k (fun i v _=>∃ t,v = .int (a + (i:Int)) t)→Q (.ref I) s'):wpAny (model rw_pq1024_01.row.prog w) c.A (pyIter (.ref r)) Q E s:=by
  have hs:=small_range h0 (by lia) hb
  refine wpAny_pyIter_range hr hs.2 ?_
  have W:=Walks.range (prog:=PR) (w:=w) S.hh s.heap.objs.size a 1 k
  simp only [Int.mul_one] at W
  have W':=KTurns.ofWalks (target:=target) W (fun i v s Q E st q=>letGo_rangeiter st q)
  refine h _ _ (S.push _) (Itr.mk' W' (fun i s' Q E=>W.self i s' Q E) ?_ ?_ ?_ ?_ ?_)
  · show (s.heap.push _).get? _ = _
    rw [hs.1,hk]
    have:=Heap.get?_push_size s.heap (o:={ cls:=.type "range_iterator",data:=.fields #[rawInt a,rawInt (k:Nat),rawInt 1] }) rfl
    simpa using this
  · simp
  · intro i h st b hb
    have hb':b = s.heap.objs.size:=by simpa using hb
    subst hb'
    exact mk1 _ st
  · intro b hb
    have hb':b = s.heap.objs.size:=by simpa using hb
    subst hb'
    exact ⟨S.freshG (Nat.le_refl _),fun q hq=>Nat.ne_of_lt (S.below q hq)⟩
  · intro b hb
    show _∧b < (s.heap.push _).objs.size∧_
    rw [Heap.size_push]
    have hb':b = s.heap.objs.size:=by simpa using hb
    subst hb'
    exact ⟨Nat.ne_of_gt S.lo,Nat.lt_succ_self _,fun q hq=>Nat.ne_of_lt (S.below q (List.mem_append_left _ hq))⟩
theorem src_zipL {elts:List Expr} {kk:Nat} {pos:Pos} {l1 l2:Addr} {xs ys:List Value} {e1 e2:Nat} (S:St w c m own P s) (hl1:(l1,listOf xs.toArray e1)∈P) (hl2:(l2,listOf ys.toArray e2)∈P)
    (h:∀ I s',St w c m own P s'→Itr w c (.Tuple elts kk pos) own P I s' (min xs.length ys.length) (fun i v h=>∃ T x y,v = .ref T∧xs[i]? = some x∧ys[i]? = some y∧h.IsTuple T #[x,y])→Q (.ref I) s') :
    wpAny (model rw_pq1024_01.row.prog w) c.A (call (.type "zip") [.ref l1,.ref l2]) (fun xv s₁=>wpAny (model rw_pq1024_01.row.prog w) c.A (pyIter xv) Q E s₁) E s:=by
  have h1:=S.isListP hl1
  have h2:=S.isListP hl2
  have lt1:l1 < s.heap.objs.size:=Heap.lt_size (S.inP hl1)
  have lt2:l2 < s.heap.objs.size:=Heap.lt_size (S.inP hl2)
  have D:ZipApart (s.heap.objs.size + 4) (s.heap.objs.size + 2) (s.heap.objs.size + 3) s.heap.objs.size (s.heap.objs.size + 1) l1 l2:=ktu_apart _ _ _ lt1 lt2
  refine call_zip_2 h1 h2 fun h' hz hTI hTO hi1 hi2 hsz hk=>?_
  refine wpAny_pyIter_zip hz ?_
  have WT:=(WalksT.zip2 (prog:=PR) (w:=w) S.hh _ _ _ _ _ _ _ D xs.toArray ys.toArray).toU
  have S':St w c m own P { s with heap:=h' }:=S.same (tk:=s.toks) (S.F.keeps hk) (S.N.grown hk) S.ap S.nd
  have W':=KTurns.ofWalksU (elts:=elts) (k:=kk) (pos:=pos) WT
  have e:(fun (i:Nat) (v:Value) (h:Heap)=>∃ T vals,v = .ref T∧(∃ x y,xs.toArray[i]? = some x∧ys.toArray[i]? = some y∧vals = #[x,y])∧h.IsTuple T vals) = fun i v h=>∃ T x y,v = .ref T∧xs[i]? = some x∧ys[i]? = some y∧h.IsTuple T #[x,y]:=by
    funext i v h
    apply propext
    constructor
    · intro hx1
      refine ex2 hx1 ?_;clear hx1;intro T vals hy3;refine an3 hy3 ?_;clear hy3;intro a hx2 d
      refine ex2 hx2 ?_;clear hx2;intro x y hy5;refine an3 hy5 ?_;clear hy5;intro b c hx4
      symm at hx4;subst hx4
      exact mk3 T x y ⟨a,by simpa using b,by simpa using c,d⟩
    · intro hx6
      refine ex3 hx6 ?_;clear hx6;intro T x y hy7;refine an4 hy7 ?_;clear hy7;intro a b c d
      exact mk2 T _ ⟨a,⟨x,y,by simpa using b,by simpa using c,rfl⟩,d⟩
  rw [e] at W'
  simp only [List.size_toArray] at W'
  refine h _ _ S' (Itr.mk' W' (fun i s' Q E=>WT.self i s' Q E) ?_ ?_ ?_ ?_ ?_)
  · exact ⟨hz,hTI,⟨_,_,hTO⟩,hi1,hi2,h1.at fun o e=>hk l1 o e,h2.at fun o e=>hk l2 o e⟩
  · exact zz3 _
  · intro i h hx8
    refine an7 hx8 ?_;clear hx8;intro hz hTI hx9 hx10 hx11 hx12 hx13
    refine ex2 hx9 ?_;clear hx9;intro a b hTO
    refine ex1 hx10 ?_;clear hx10;intro o1 hy14;refine an3 hy14 ?_;clear hy14;intro ho1 _ _
    refine ex1 hx11 ?_;clear hx11;intro o2 hy15;refine an3 hy15 ?_;clear hy15;intro ho2 _ _
    refine ex1 hx12 ?_;clear hx12;intro o3 hy16;refine an2 hy16 ?_;clear hy16;intro ho3 _
    refine ex1 hx13 ?_;clear hx13;intro o4 hy17;refine an2 hy17 ?_;clear hy17;intro ho4 _
    intro b hb
    have hb':b = s.heap.objs.size + 4∨b = s.heap.objs.size + 2∨b = s.heap.objs.size + 3∨b = s.heap.objs.size∨b = s.heap.objs.size + 1∨b = l1∨b = l2:=by simpa using hb
    rcases hb' with rfl | rfl | rfl | rfl | rfl | rfl | rfl
    · exact ⟨_,hz⟩
    · exact ⟨_,hTI⟩
    · exact ⟨_,hTO⟩
    · exact ⟨_,ho1⟩
    · exact ⟨_,ho2⟩
    · exact ⟨_,ho3⟩
    · exact ⟨_,ho4⟩
  · intro b hb
    have hb':b = s.heap.objs.size + 4∨b = s.heap.objs.size + 3∨b = s.heap.objs.size∨b = s.heap.objs.size + 1:=by simpa using hb
    have hge:s.heap.objs.size≤b:=zz1 _ _ hb'
    exact ⟨S.freshG hge,fun q hq=>Nat.ne_of_lt (Nat.lt_of_lt_of_le (S.below q hq) hge)⟩
  · intro b hb
    have hb':b = s.heap.objs.size + 4∨b = s.heap.objs.size + 2∨b = s.heap.objs.size + 3∨b = s.heap.objs.size∨b = s.heap.objs.size + 1∨b = l1∨b = l2:=by simpa using hb
    show _∧b < h'.objs.size∧_
    rw [hsz]
    have hge:=zz2 _ _ _ _ hb'
    rcases hge with ⟨hge,hle⟩ | rfl | rfl
    · refine ⟨Nat.ne_of_gt (Nat.lt_of_lt_of_le S.lo hge),hle,fun q hq=>Nat.ne_of_lt (Nat.lt_of_lt_of_le (S.below q (List.mem_append_left _ hq)) hge)⟩
    · exact ⟨(S.N _ (List.mem_append_right _ hl1)).2.1,Nat.lt_of_lt_of_le lt1 (Nat.le_add_right _ _),fun q hq=>Ne.symm (S.ap q hq _ hl1)⟩
    · exact ⟨(S.N _ (List.mem_append_right _ hl2)).2.1,Nat.lt_of_lt_of_le lt2 (Nat.le_add_right _ _),fun q hq=>Ne.symm (S.ap q hq _ hl2)⟩
end
end
section
open PySem.Calls
section
variable {w:World} {c:Cx} {m:Str→Option Value} {own P:Led} {s:Shared}
theorem St.perm {own':Led} (S:St w c m own P s) (h:own.Perm own'):St w c m own' P s :=
  ⟨S.F,fun p hp=>S.N p ((List.mem_append.mp hp).elim (fun q=>List.mem_append_left _ (h.mem_iff.mpr q)) fun q=>List.mem_append_right _ q),fun q hq p hp=>S.ap q (h.mem_iff.mpr hq) p hp,(h.map (·.1)).nodup_iff.mp S.nd,S.X,S.T,S.B,S.hh,S.fr,S.eg,S.ed,S.eo⟩
/-- one own cell is changed -/
theorem St.put {d:Addr} {o o':Obj} {pre post:Led} {h':Heap} {tk:Nat} (S:St w c m (pre ++ (d,o)::post) P s) (hk:∀ b ob,b≠d→s.heap.get? b = some ob→h'.get? b = some ob) (hd':h'.get? d = some o') :
    St w c m (pre ++ (d,o')::post) P { s with heap:=h',toks:=tk }:=by
  have S₁:=S.perm (List.perm_middle)
  have hdm:=S₁.N (d,o) (.head _)
  have F':Fr c.g c.L h' m:=⟨S.F.ns.at' fun ob e=>hk _ ob (Ne.symm hdm.2.1) e,fun b ob e=>hk b ob (fun q=>by rw [q] at e;rw [hdm.2.2] at e;cases e) (S.F.keep b ob e),S.F.above⟩
  have N':News c.g c.L h' ((d,o')::((pre ++ post) ++ P)):=by
    intro p hp
    rcases List.mem_cons.mp hp with rfl | hp
    · exact ⟨hd',hdm.2⟩
    · have z:=S₁.N p (.tail _ hp)
      refine ⟨hk _ _ ?_ z.1,z.2⟩
      rcases List.mem_append.mp hp with hp | hp
      · exact fun e=>(List.nodup_cons.mp S₁.nd).1 (List.mem_map.mpr ⟨p,hp,e⟩)
      · exact S₁.ap _ (.head _) p hp
  exact (S₁.setO rfl (tk:=tk) F' N').perm (List.perm_middle).symm
/-- objects outside the frame's own change -/
theorem St.out {h':Heap} {tk:Nat} {wr:List Addr} (S:St w c m own P s) (hk:∀ b ob,b ∉ wr→s.heap.get? b = some ob→h'.get? b = some ob) (hL:c.L ∉ wr) (hg:∀ b∈wr,c.g.get? b = none) (ho:∀ q∈own ++ P,q.1 ∉ wr) :
    St w c m own P { s with heap:=h',toks:=tk } :=
  S.same ⟨S.F.ns.at' fun ob e=>hk _ ob hL e,fun b ob e=>hk b ob (fun q=>by rw [hg b q] at e;cases e) (S.F.keep b ob e),S.F.above⟩ (fun p hp=>⟨hk _ _ (ho p hp) (S.N p hp).1,(S.N p hp).2⟩) S.ap S.nd
end
noncomputable def Stage (w:World) (A:Around) (env:Env) (ifs:List Expr) (elt:Expr) (K:Option Value→Shared→Prop) (E:Value→Shared→Prop) (s:Shared):Prop :=
  match ifs with
  | []=>wpAny (model rw_pq1024_01.row.prog w) A (eval elt env) (fun y s'=>K (some y) s') E s
  | t::_=>wpAny (model rw_pq1024_01.row.prog w) A (PySem.isTrue t env (eval t env)) (fun ok s₃=>if ok = true then wpAny (model rw_pq1024_01.row.prog w) A (eval elt env) (fun y s'=>K (some y) s') E s₃ else K none s₃) E s
theorem Stage.mono {w:World} {A:Around} {env:Env} {ifs:List Expr} {elt:Expr} {K K':Option Value→Shared→Prop} {E:Value→Shared→Prop} {s:Shared} (h:Stage w A env ifs elt K E s) (hk:∀ o s',K o s'→K' o s'):Stage w A env ifs elt K' E s:=by
  cases ifs with
  | nil=>exact wpAny_mono h (fun y s' h'=>hk _ _ h') fun _ _ e=>e
  | cons t r=>exact wpAny_mono h (fun ok s₃ h₃=>by
      cases ok with
      | true=>exact wpAny_mono h₃ (fun y s' h'=>hk _ _ h') fun _ _ e=>e
      | false=>exact hk _ _ h₃) fun _ _ e=>e
theorem stage_loop {w:World} {A:Around} {target iter elt:Expr} {ifs:List Expr} (hifs:ifs.length≤1) {scope:Scope} {pos:Pos} {it acc:Value} {env:Env} {R:Result→Shared→Prop} (I:Nat→Shared→Prop)
    (turn:∀ n s,I n s→wpAny (model rw_pq1024_01.row.prog w) A (pyNext it) (fun r s₁=>match r with
      | none=>R (.ok .next) s₁
      | some v=>wpAny (model rw_pq1024_01.row.prog w) A (letOwnedTupleGo target it v) (fun _ s₀=>wpAny (model rw_pq1024_01.row.prog w) A (assign target env v) (fun _ s₂ =>
          Stage w A env ifs elt (fun o s₄=>match o with
            | some x=>wpAny (model rw_pq1024_01.row.prog w) A (call (.builtin "list.append") [acc,x]) (fun _ s₅=>∃ m,m < n∧I m s₅) (notedBy (model rw_pq1024_01.row.prog w) A env fun e s'=>R (.error e) s') s₄
            | none=>∃ m,m < n∧I m s₄) (notedBy (model rw_pq1024_01.row.prog w) A env fun e s'=>R (.error e) s') s₂)
          (notedBy (model rw_pq1024_01.row.prog w) A env fun e s'=>R (.error e) s') s₀) (notedBy (model rw_pq1024_01.row.prog w) A env fun e s'=>R (.error e) s') s₁) (notedBy (model rw_pq1024_01.row.prog w) A env fun e s'=>R (.error e) s') s)
    (n:Nat) (s:Shared) (h:I n s):codeAny (model rw_pq1024_01.row.prog w) A (.compLoop (.ListComp elt [⟨target,iter,ifs,0⟩] scope pos) 0 it acc env) R s:=by
  match ifs,hifs with
  | [],_=>exact kcp_loop I turn n h
  | [t],_=>exact kct_loop I turn n h
section
variable {w:World} {c:Cx} {m:Str→Option Value} {own P:Led} {s:Shared} {E:Value→Shared→Prop}
theorem comp_core {target elt iter:Expr} {ifs:List Expr} {scope:Scope} {cl:List (Str × Addr)} {pos:Pos} {env:Env} {I:Addr} {n:Nat} {Pt:Nat→Value→Heap→Prop} {RR:Value→Addr→Result→Shared→Prop}
    (hifs:ifs.length≤1) (hcell:∀ y∈scope.names,y.2≠.cell) (hkind:scope.kind = .function) (S:St w c m own P s) (hI:Itr w c target own P I s n Pt) (hz:n≤1000000)
    (G:Nat→(Str→Option Value)→Prop)
    (J:Nat→Led→Led→List Value→Prop)
    (asg:∀ i v C m₁ own₁ P₁ ys (s₁:Shared) (Q:Unit→Shared→Prop) (E:Value→Shared→Prop),i < n→Pt i v s₁.heap→J i own₁ P₁ ys→(∀ p∈P₁,s₁.heap.get? p.1 = some p.2)→s₁.heap.Ns C m₁→(∀ h' tk m₂,h'.Ns C m₂→G i m₂→(∀ b o,b≠C→s₁.heap.get? b = some o→h'.get? b = some o)→Q () { s₁ with heap:=h',toks:=tk }) →
      wpAny (model rw_pq1024_01.row.prog w) c.A (assign target (compEnvC scope cl C env) v) Q E s₁)
    (h0:J 0 own P [])
    (step:∀ i own₁ P₁ P₁' tl C oC m₂ ys s₂ E',i < n→J i own₁ P₁ ys→G i m₂→LCg.NsObj oC m₂→(C,oC)∈tl→St w c m (own₁ ++ tl) P₁' s₂→(∀ p∈P₁,p∈P₁') →
      Stage w c.A (compEnvC scope cl C env) ifs elt (fun o s₄=>∃ own₂ P₂,St w c m (own₂ ++ tl) P₂ s₄∧(∀ p∈P₁',p∈P₂)∧J (i + 1) own₂ P₂ (ys ++ o.toList)) E' s₂)
    (hRR:∀ D C oC m' own' P' ys s',LCg.NsObj oC m'→St w c m ((C,oC)::own') ((D,LCg.lst ys)::P') s'→J n own' P' ys→RR (.ref D) C (.ok .next) s') :
    wpAny (model rw_pq1024_01.row.prog w) c.A (newList []) (fun acc s₃=>wpAny (model rw_pq1024_01.row.prog w) c.A (newFunctionEnv scope env.globals cl [] env.qual none .none (some env)) (fun cenv s₄ =>
      codeAny (model rw_pq1024_01.row.prog w) c.A (.compStart (.ListComp elt [⟨target,iter,ifs,0⟩] scope pos) 0 (.ref I) acc { cenv with scope:=relabel scope env }) (RR acc cenv.locals) s₄) E s₃) E s:=by
  refine ex4 hI ?_;clear hI;intro fp wr Md Z hy1;refine an7 hy1 ?_;clear hy1;intro W hz0 hnd hio hwr hfp self
  refine wpAny_newObj_type (wpAny_newFunctionEnv hcell (by intro y hy;simp at hy) (fun h₁ hns₁ hsb₁=>?_) hkind)
  dsimp only at hns₁ hsb₁ ⊢
  generalize hH2:s.heap.push { cls:=.type "list",dict:=none,data:=.seq ([]:List Value).toArray } = H2 at hns₁ hsb₁ ⊢
  have hC:H2.objs.size = s.heap.objs.size + 1:=by rw [← hH2,Heap.size_push]
  have hDC:s.heap.objs.size≠H2.objs.size:=by rw [hC];exact Nat.ne_of_lt (Nat.lt_succ_self _)
  have below:∀ b,b < s.heap.objs.size→b≠H2.objs.size∧b≠s.heap.objs.size:=fun b hb=>⟨by rw [hC];exact Nat.ne_of_lt (Nat.lt_succ_of_lt hb),Nat.ne_of_lt hb⟩
  have old:∀ b o,s.heap.get? b = some o→h₁.get? b = some o:=fun b o e=>hsb₁.extBut b o (below b (Heap.lt_size e)).1 (Heap.get?_push_of_some _ (hH2 ▸ Heap.get?_push_of_some _ e))
  have hacc:h₁.get? s.heap.objs.size = some (LCg.lst []):=hsb₁.extBut _ _ hDC (Heap.get?_push_of_some _ (hH2 ▸ Heap.get?_push_size _ rfl))
  have hD₀:=S.freshG (Nat.le_refl s.heap.objs.size)
  have hC₀:c.g.get? H2.objs.size = none:=S.freshG (by rw [hC];exact Nat.le_succ _)
  have hDL:s.heap.objs.size≠c.L:=Ne.symm (below c.L S.lo).2
  have hCL:H2.objs.size≠c.L:=Ne.symm (below c.L S.lo).1
  have hDf:s.heap.objs.size ∉ fp:=fun hb=>Nat.lt_irrefl _ (hfp _ hb).2.1
  have hCf:H2.objs.size ∉ fp:=fun hb=>by have:=(hfp _ hb).2.1;rw [hC] at this;exact Nat.lt_irrefl _ (Nat.lt_of_succ_lt this)
  refine ex1 (LCg.ns_obj hns₁) ?_;intro oC hy2;refine an2 hy2 ?_;clear hy2;intro heC hoC
  have hLw:c.L ∉ wr:=fun h=>(hfp _ (W.sub _ h)).1 rfl
  have hgw:∀ b∈wr,c.g.get? b = none:=fun b hb=>(hwr b hb).1
  generalize hDn:s.heap.objs.size = D at *
  generalize hCn:H2.objs.size = C at *
  have S₁:St w c m (own ++ [(C,oC),(D,LCg.lst [])]) P { s with heap:=h₁,toks:=s.toks + ([]:List (Str × Value)).length }:=by
    refine S.same (S.F.keeps old) (fun p hp=>?_) (fun q hq p hp=>?_) ?_
    · rcases List.mem_append.mp hp with hp | hp
      · rcases List.mem_append.mp hp with hp | hp
        · have z:=S.N p (List.mem_append_left _ hp);exact ⟨old _ _ z.1,z.2⟩
        · rcases List.mem_cons.mp hp with rfl | hp
          · exact ⟨heC,hCL,hC₀⟩
          · rw [List.mem_singleton.mp hp];exact ⟨hacc,hDL,hD₀⟩
      · have z:=S.N p (List.mem_append_right _ hp);exact ⟨old _ _ z.1,z.2⟩
    · rcases List.mem_append.mp hq with hq | hq
      · exact S.ap q hq p hp
      · have hb:=below p.1 (by rw [← hDn];exact S.below p (List.mem_append_right _ hp))
        rcases List.mem_cons.mp hq with rfl | hq
        · exact hb.1
        · rw [List.mem_singleton.mp hq];exact hb.2
    · rw [List.map_append]
      refine List.nodup_append.mpr ⟨S.nd,by simp only [List.map_cons,List.map_nil,List.nodup_cons,List.mem_singleton,List.not_mem_nil,not_false_eq_true,List.nodup_nil,and_true];exact Ne.symm hDC,fun a ha b hb e=>?_⟩
      refine ex1 (List.mem_map.mp ha) ?_;intro q hy4;refine an2 hy4 ?_;clear hy4;intro hq hx3
      symm at hx3;subst hx3
      have hbl:=below q.1 (by rw [← hDn];exact S.below q (List.mem_append_left _ hq))
      have hb':b = C∨b = D:=by simpa using hb
      rcases hb' with rfl | rfl
      · exact hbl.1 e
      · exact hbl.2 e
  have hz1:Z 0 h₁:=W.frame _ _ _ hz0 fun b _ o e=>old b o e
  have loop:∀ s₃:Shared,s₃ = { s with heap:=h₁,toks:=s.toks + ([]:List (Str × Value)).length } →
      codeAny (model rw_pq1024_01.row.prog w) c.A (.compLoop (.ListComp elt [⟨target,iter,ifs,0⟩] scope pos) 0 (.ref I) (.ref D) (compEnvC scope cl C env)) (RR (.ref D) C) s₃:=by
    rintro s₃ rfl
    refine stage_loop hifs (fun k s'=>∃ i own₁ P₁ oC m₁ ys,St w c m (own₁ ++ [(C,oC),(D,LCg.lst ys)]) P₁ s'∧LCg.NsObj oC m₁∧Z i s'.heap∧(∀ b∈fp,∀ q∈own₁,q.1≠b)∧(∀ p∈P₁,p.1 ∉ wr)∧J i own₁ P₁ ys∧ys.length≤i∧i≤n∧k = n + 1 - i) ?_ (n + 1) _
      ⟨0,own,P,oC,_,[],S₁,hoC,hz1,fun b hb q hq=>(hfp b hb).2.2 q hq,fun p hp hb=>(hwr _ hb).2 p (List.mem_append_right _ hp) rfl,h0,Nat.le_refl _,Nat.zero_le _,rfl⟩
    intro k s' hx5
    refine ex6 hx5 ?_;clear hx5;intro i own₁ P₁ oC m₁ ys hy7;refine an9 hy7 ?_;clear hy7;intro S' hoC hz' hof hPw hJ hyl hi hx6
    symm at hx6;subst hx6
    have offw:∀ q∈(own₁ ++ [(C,oC),(D,LCg.lst ys)]) ++ P₁,q.1 ∉ wr:=fun q hq hb=>by
      rcases List.mem_append.mp hq with hq | hq
      · rcases List.mem_append.mp hq with hq | hq
        · exact hof _ (W.sub _ hb) q hq rfl
        · rcases List.mem_cons.mp hq with rfl | hq
          · exact hCf (W.sub _ hb)
          · rw [List.mem_singleton.mp hq] at hb;exact hDf (W.sub _ hb)
      · exact hPw q hq hb
    by_cases hlt:i < n
    · refine W.item i _ _ _ hlt hz' fun v h₂ tk₂ hMd hk₂=>?_
      refine W.go i v _ _ _ hMd fun h₃ hP hz₃ hk₃=>?_
      have S₃:=S'.out (tk:=tk₂) (fun b ob hb e=>hk₃ b ob hb (hk₂ b ob hb e)) hLw hgw offw
      have hCz:h₃.get? C = some oC:=(S₃.N (C,oC) (List.mem_append_left _ (List.mem_append_right _ (.head _)))).1
      refine asg i v C m₁ own₁ P₁ ys _ _ _ hlt hP hJ (fun p hp=>S₃.inP hp) (hoC.ns hCz) fun h₄ tk₄ m₂ hns₄ hG hk₄=>?_
      refine ex1 (LCg.ns_obj hns₄) ?_;intro oC' hy8;refine an2 hy8 ?_;clear hy8;intro heC' hoC'
      have S₄:=S₃.put (tk:=tk₄) hk₄ heC'
      have hz₄:Z (i + 1) h₄:=W.frame _ _ _ hz₃ fun b hb o e=>hk₄ b o (fun q=>hCf (q ▸ hb)) e
      have Nown:News c.g c.L h₄ (PyProof.Rows.ownOf c.g fp h₄):=news_ownOf fun hb=>(hfp _ hb).1 rfl
      have S₅:=turn_St (s₁:={ s' with heap:=h₄,toks:=tk₄ }) (nw:=PyProof.Rows.ownOf c.g fp h₄) S₄ hnd W.sub (fun b hb=>⟨(hfp b hb).1,fun q hq=>?_⟩) hPw hgw S₄.F S₄.N S₄.ap S₄.nd (fun p hp=>⟨ownOf_sub p hp,(Nown p hp).1,(Nown p hp).2.2⟩) rfl rfl rfl
      · rw [List.append_assoc] at S₅
        refine (step i own₁ P₁ _ _ C oC' m₂ ys _ _ hlt hJ hG hoC' (.head _) S₅ (fun p hp=>List.mem_append_right _ hp)).mono fun o s₆ h₆=>?_
        refine ex2 h₆ ?_;clear h₆;intro own₂ P₂ hy9;refine an3 hy9 ?_;clear hy9;intro S₆ hs₂ hJ₂
        have nd2:=S₆.nd
        rw [List.map_append] at nd2
        have nd3:=List.nodup_append.mp nd2
        have inW:∀ b∈wr,∃ o,(b,o)∈wrObjs wr h₄:=fun b hb=>by
          refine ex1 (hio _ _ hz₄ _ (W.sub _ hb)) ?_;intro o ho
          exact mk1 o (mem_wrObjs.mpr ⟨hb,ho⟩)
        have offP:∀ p∈P₂,p.1 ∉ wr:=fun p hp hb=>by
          refine ex1 (inW _ hb) ?_;intro o ho
          exact S₆.ap (p.1,o) (List.mem_append_right _ (.tail _ (.tail _ ho))) p hp rfl
        have offO:∀ b∈fp,∀ q∈own₂,q.1≠b:=fun b hb q hq e=>by
          have hq0:=(S₆.N q (List.mem_append_left _ (List.mem_append_left _ hq))).2.2
          rw [e] at hq0
          by_cases hbw:b∈wr
          · refine ex1 (inW _ hbw) ?_;intro o ho
            exact nd3.2.2 q.1 (List.mem_map_of_mem hq) b (List.mem_map.mpr ⟨(b,o),.tail _ (.tail _ ho),rfl⟩) e
          · refine ex1 (hio _ _ hz₄ _ hb) ?_;intro o ho
            have:=hs₂ _ (List.mem_append_left _ (List.mem_filter.mpr ⟨mem_ownOf hb hq0 ho,by simpa using hbw⟩))
            exact S₆.ap q (List.mem_append_left _ hq) _ this e.symm
        have keepZ:∀ h₇:Heap,(∀ b o,b≠D→s₆.heap.get? b = some o→h₇.get? b = some o)→Z (i + 1) h₇:=fun h₇ hk=>W.frame _ _ _ hz₄ fun b hb o e=>by
          refine hk b o (fun q=>hDf (q ▸ hb)) ?_
          cases hn:c.g.get? b with
          | some o₀ =>
            have:=S₄.F.keep b o₀ hn
            rw [show ({ s' with heap:=h₄,toks:=tk₄ }:Shared).heap.get? b = h₄.get? b from rfl,e] at this
            cases this
            exact S₆.F.keep b o hn
          | none =>
            by_cases hbw:b∈wr
            · exact (S₆.N (b,o) (List.mem_append_left _ (List.mem_append_right _ (.tail _ (.tail _ (mem_wrObjs.mpr ⟨hbw,e⟩)))))).1
            · exact (S₆.N (b,o) (List.mem_append_right _ (hs₂ _ (List.mem_append_left _ (List.mem_filter.mpr ⟨mem_ownOf hb hn e,by simpa using hbw⟩))))).1
        have trim:∀ {s₇:Shared} {ys':List Value},St w c m (own₂ ++ ([(C,oC'),(D,LCg.lst ys')] ++ wrObjs wr h₄)) P₂ s₇→St w c m (own₂ ++ [(C,oC'),(D,LCg.lst ys')]) P₂ s₇:=fun {s₇ ys'} S₇ =>
          ⟨S₇.F,fun p hp=>S₇.N p (by
            rcases List.mem_append.mp hp with hp | hp
            · rcases List.mem_append.mp hp with hp | hp
              · exact List.mem_append_left _ (List.mem_append_left _ hp)
              · exact List.mem_append_left _ (List.mem_append_right _ (List.mem_append_left _ hp))
            · exact List.mem_append_right _ hp),fun q hq p hp=>S₇.ap q (by
            rcases List.mem_append.mp hq with hq | hq
            · exact List.mem_append_left _ hq
            · exact List.mem_append_right _ (List.mem_append_left _ hq)) p hp,by
            have h:=S₇.nd
            rw [← List.append_assoc,List.map_append] at h
            exact (List.nodup_append.mp h).1,S₇.X,S₇.T,S₇.B,S₇.hh,S₇.fr,S₇.eg,S₇.ed,S₇.eo⟩
        cases o with
        | none =>
          refine mk1 (n + 1 - (i + 1)) ⟨by lia,mk6 (i + 1) own₂ P₂ oC' m₂ ys ⟨trim S₆,hoC',keepZ _ fun b o _ e=>e,offO,offP,by simpa using hJ₂,by lia,hlt,rfl⟩⟩
        | some y =>
          have zD:=(S₆.N (D,LCg.lst ys) (List.mem_append_left _ (List.mem_append_right _ (.tail _ (.head _))))).1
          refine append_at (hsz:=by show ys.toArray.size≤sizeLine;rw [List.size_toArray];exact fits_le (by lia)) zD fun h₇ hs₇ hD₇=>?_
          have S₇:St w c m ((own₂ ++ [(C,oC')]) ++ (D,LCg.lst (ys ++ [y]))::wrObjs wr h₄) P₂ { s₆ with heap:=h₇,toks:=s₆.toks }:=by
            refine St.put (o:=LCg.lst ys) ?_ (fun b ob hb e=>hs₇.extBut b ob hb e) (hD₇.trans (congrArg some (LCg.lst_snoc ys y)))
            have:=S₆
            simpa [List.append_assoc] using this
          refine mk1 (n + 1 - (i + 1)) ⟨by lia,mk6 (i + 1) own₂ P₂ oC' m₂ (ys ++ [y]) ⟨trim (by simpa [List.append_assoc] using S₇),hoC',keepZ _ fun b o hb e=>hs₇.extBut b o hb e,offO,offP,by simpa using hJ₂,by rw [List.length_append,List.length_singleton];lia,hlt,rfl⟩⟩
      · rcases List.mem_append.mp hq with hq | hq
        · exact hof b hb q hq
        · rcases List.mem_cons.mp hq with rfl | hq
          · exact fun e=>hCf (by have e':C = b:=e;rw [e'];exact hb)
          · rw [List.mem_singleton.mp hq];exact fun e=>hDf (by have e':D = b:=e;rw [e'];exact hb)
    · obtain rfl:i = n:=Nat.le_antisymm hi (Nat.not_lt.mp hlt)
      refine W.done _ _ _ hz' fun h₂ tk₂ hk₂=>?_
      have S₂:=S'.out (tk:=tk₂) hk₂ hLw hgw offw
      have S₃:St w c m ((D,LCg.lst ys)::(C,oC)::own₁) P₁ { s' with heap:=h₂,toks:=tk₂ }:=S₂.perm (by
        refine (List.perm_append_comm).trans ?_
        exact List.Perm.swap _ _ _)
      exact hRR D C oC m₁ own₁ P₁ ys _ hoC S₃.settle hJ
  exact codeAny_compStart_list (loop _ rfl) (self 0 _ _ _ hz1 (loop _ rfl))
end
noncomputable def CompAt (w:World) (c:Cx) (m:Str→Option Value) (target elt:Expr) (ifs:List Expr) (scope:Scope) (cl:List (Str × Addr)) (env:Env) (Fin:Led→Led→List Value→Addr→Prop) (it:Value) (s:Shared):Prop :=
  ∃ (I:Addr) (own P:Led) (n:Nat) (Pt:Nat→Value→Heap→Prop) (G:Nat→(Str→Option Value)→Prop) (J:Nat→Led→Led→List Value→Prop),it = .ref I∧St w c m own P s∧Itr w c target own P I s n Pt∧n≤1000000 ∧
    (∀ i v C m₁ own₁ P₁ ys (s₁:Shared) (Q:Unit→Shared→Prop) (E:Value→Shared→Prop),i < n→Pt i v s₁.heap→J i own₁ P₁ ys→(∀ p∈P₁,s₁.heap.get? p.1 = some p.2)→s₁.heap.Ns C m₁→(∀ h' tk m₂,h'.Ns C m₂→G i m₂→(∀ b o,b≠C→s₁.heap.get? b = some o→h'.get? b = some o)→Q () { s₁ with heap:=h',toks:=tk }) →
      wpAny (model rw_pq1024_01.row.prog w) c.A (assign target (compEnvC scope cl C env) v) Q E s₁)∧J 0 own P [] ∧
    (∀ i own₁ P₁ P₁' tl C oC m₂ ys s₂ E',i < n→J i own₁ P₁ ys→G i m₂→LCg.NsObj oC m₂→(C,oC)∈tl→St w c m (own₁ ++ tl) P₁' s₂→(∀ p∈P₁,p∈P₁') →
      Stage w c.A (compEnvC scope cl C env) ifs elt (fun o s₄=>∃ own₂ P₂,St w c m (own₂ ++ tl) P₂ s₄∧(∀ p∈P₁',p∈P₂)∧J (i + 1) own₂ P₂ (ys ++ o.toList)) E' s₂) ∧
    ∀ own' P' ys D,J n own' P' ys→Fin own' P' ys D
section
variable {w:World} {c:Cx} {m:Str→Option Value} {own P:Led} {s:Shared} {E:Value→Shared→Prop}
theorem St.dropC {C:Addr} {oC:Obj} (S:St w c m ((C,oC)::own) P s):∀ h',Heap.SameBut C s.heap h'→St w c m own P { s with heap:=h' }:=fun h' hs=>by
  have hz:=S.N (C,oC) (.head _)
  have S':St w c m own P s:=S.drop
  refine S'.out (tk:=s.toks) (wr:=[C]) (fun b ob hb e=>hs.extBut b ob (by simpa using hb) e) (by simpa using Ne.symm hz.2.1) (fun b hb=>by rw [List.mem_singleton.mp hb];exact hz.2.2) (fun q hq hb=>?_)
  have hb':q.1 = C:=by simpa using hb
  rcases List.mem_append.mp hq with hq | hq
  · exact (List.nodup_cons.mp S.nd).1 (List.mem_map.mpr ⟨q,hq,hb'⟩)
  · exact S.ap _ (.head _) q hq hb'
theorem comp_eval {target elt iter:Expr} {ifs:List Expr} {scope:Scope} {cl:List (Str × Addr)} {pos:Pos} {env:Env} {Q:Value→Shared→Prop}
    (hifs:ifs.length≤1) (hclos:closureFor scope env = pure cl) (hcell:∀ y∈scope.names,y.2≠.cell) (hkind:scope.kind = .function) (hnames:∀ y∈scope.names,y.2 = .local→scope.names.lookup y.1 = some .local) (hs:∀ x,foldedSetIterable iter env x = pure x)
    (h:wpAny (model rw_pq1024_01.row.prog w) c.A (eval iter env) (fun xv s₁=>wpAny (model rw_pq1024_01.row.prog w) c.A (pyIter xv) (CompAt w c m target elt ifs scope cl env (fun own' P' ys D=>∀ s',St w c m own' ((D,LCg.lst ys)::P') s'→Q (.ref D) s')) E s₁) E s) :
    wpAny (model rw_pq1024_01.row.prog w) c.A (eval (.ListComp elt [⟨target,iter,ifs,0⟩] scope pos) env) Q E s:=by
  rw [eval_ListComp]
  refine wpAny_comprehension_free (use:=none) rfl hs hclos hkind hnames (wpAny_mono h (fun xv s₁ h₁=>wpAny_mono h₁ (fun it s₂ h₂=>?_) fun _ _ e=>e) fun _ _ e=>e)
  refine ex7 h₂ ?_;clear h₂;intro I own P n Pt G J hy11;refine an8 hy11 ?_;clear hy11;intro hx10 S hI hz asg h0 step fin
  symm at hx10;subst hx10
  refine comp_core (RR:=fun acc C=>compPost _ _ _ none Q acc C) hifs hcell hkind S hI hz G J asg h0 step fun D C oC m' own' P' ys s' hoC S' hJ=>?_
  exact mk1 m' ⟨hoC.ns (S'.N (C,oC) (.head _)).1,fun h' hs'=>fin _ _ _ D hJ _ (S'.dropC h' hs')⟩
theorem comp_assign {target elt iter:Expr} {ifs:List Expr} {scope:Scope} {cl:List (Str × Addr)} {pos spos py:Pos} {Q:Flow→Shared→Prop} {cn:Str} {ns:List (Str × NameKind)} {mo:List (Str × Const)} {a:Addr} {ccd:Value} {ecl:List (Str × Addr)} {vals:List (Option Value)} {y:Str} (g:goodNs ns = true)
    (hsw:swapsWith (.ListComp elt [⟨target,iter,ifs,0⟩] scope pos) (some (.Name y py)) spos.line (envX cn (fnSc ns mo) c.L a ccd ecl) = pure true)
    (hifs:ifs.length≤1) (hclos:closureFor scope (envX cn (fnSc ns mo) c.L a ccd ecl) = pure cl) (hcell:∀ y∈scope.names,y.2≠.cell) (hkind:scope.kind = .function) (hnames:∀ y∈scope.names,y.2 = .local→scope.names.lookup y.1 = some .local) (hs:∀ x,foldedSetIterable iter (envX cn (fnSc ns mo) c.L a ccd ecl) x = pure x)
    (h:wpAny (model rw_pq1024_01.row.prog w) c.A (eval iter (envX cn (fnSc ns mo) c.L a ccd ecl)) (fun xv s₁=>wpAny (model rw_pq1024_01.row.prog w) c.A (pyIter xv) (CompAt w c (asg ns vals) target elt ifs scope cl (envX cn (fnSc ns mo) c.L a ccd ecl) (fun own' P' ys D=>SetQ ns vals y (.ref D) (fun vals'=>∀ s',St w c (asg ns vals') own' ((D,LCg.lst ys)::P') s'→Q .next s'))) E s₁) E s) :
    wpAny (model rw_pq1024_01.row.prog w) c.A (exec (.Assign [.Name y py] (.ListComp elt [⟨target,iter,ifs,0⟩] scope pos) spos) (envX cn (fnSc ns mo) c.L a ccd ecl)) Q E s:=by
  rw [exec_Assign_Name_used _ _ _ _ hsw]
  refine wpAny_bind (wpAny_standAt (wpAny_bind ?_))
  show wpAny _ c.A (do let _ ← comprehension (.ListComp elt [⟨target,iter,ifs,0⟩] scope pos) scope (envX cn (fnSc ns mo) c.L a ccd ecl) _ (newList []) false (eval iter (envX cn (fnSc ns mo) c.L a ccd ecl)) (some (assign (.Name y py) (envX cn (fnSc ns mo) c.L a ccd ecl)))) _ _ s
  refine wpAny_bind (wpAny_mono (wpAny_comprehension_free (use:=some (assign (.Name y py) (envX cn (fnSc ns mo) c.L a ccd ecl))) (Q:=fun _ s'=>Q .next s') rfl hs hclos hkind hnames
    (wpAny_mono h (fun xv s₁ h₁=>wpAny_mono h₁ (fun it s₂ h₂=>?_) fun _ _ e=>e) fun _ _ e=>e)) (fun _ s' hq=>wpAny_pure (wpAny_pure hq)) fun _ _ e=>e)
  refine ex7 h₂ ?_;clear h₂;intro I own P n Pt G J hy13;refine an8 hy13 ?_;clear hy13;intro hx12 S hI hz asgn h0 step fin
  symm at hx12;subst hx12
  refine comp_core (RR:=fun acc C=>compPost _ _ _ (some (assign (.Name y py) (envX cn (fnSc ns mo) c.L a ccd ecl))) (fun _ s'=>Q .next s') acc C) hifs hcell hkind S hI hz G J asgn h0 step fun D C oC m' own' P' ys s' hoC S' hJ=>?_
  show wpAny _ c.A (assign (.Name y py) (envX cn (fnSc ns mo) c.L a ccd ecl) (.ref D)) _ _ _
  refine wpAny_assign_Name (st_loc S' g ?_)
  refine ex1 (fin _ _ _ D hJ) ?_;intro vals' hy14;refine an2 hy14 ?_;clear hy14;intro hl hf
  exact mk1 vals' ⟨hl,fun s'' S''=>⟨m',hoC.ns (S''.N (C,oC) (.head _)).1,fun h' hs'=>hf _ (S''.dropC h' hs')⟩⟩
theorem asgC_name {x:Str} {px:Pos} {scope:Scope} {cl:List (Str × Addr)} {env:Env} {C:Addr} {v:Value} {m₁:Str→Option Value} {Q:Unit→Shared→Prop} (hkind:scope.kind = .function) (hx:scope.names.lookup x = some .local) (hn:s.heap.Ns C m₁)
    (h:∀ h' tk m₂,h'.Ns C m₂→m₂ x = some v→(∀ b o,b≠C→s.heap.get? b = some o→h'.get? b = some o)→Q () { s with heap:=h',toks:=tk }) :
    wpAny (model rw_pq1024_01.row.prog w) c.A (assign (.Name x px) (compEnvC scope cl C env) v) Q E s :=
  wpAny_assign_Name (wpAny_storeName_local (lookup_relabel_local hx) hn (fun h' hn' hs'=>h h' _ _ hn' (by simp) fun b o hb e=>hs'.extBut b o hb e) (by simp [compEnvC,relabel,hkind]))
theorem asgC_pair {x y:Str} {px py tp:Pos} {kk:Nat} {scope:Scope} {cl:List (Str × Addr)} {env:Env} {C T:Addr} {a b:Value} {m₁:Str→Option Value} {Q:Unit→Shared→Prop} (hh:c.A.handled = none) (hkind:scope.kind = .function) (hx:scope.names.lookup x = some .local) (hy:scope.names.lookup y = some .local) (hxy:x≠y) (hn:s.heap.Ns C m₁) (ht:s.heap.IsTuple T #[a,b])
    (h:∀ h' tk m₂,h'.Ns C m₂→m₂ x = some a→m₂ y = some b→(∀ b o,b≠C→s.heap.get? b = some o→h'.get? b = some o)→Q () { s with heap:=h',toks:=tk }) :
    wpAny (model rw_pq1024_01.row.prog w) c.A (assign (.Tuple [.Name x px,.Name y py] kk tp) (compEnvC scope cl C env) (.ref T)) Q E s:=by
  refine assign_Tuple_tuple hh ht rfl rfl fun h₅ he=>?_
  have he':∀ b o,s.heap.get? b = some o→h₅.get? b = some o:=fun b o e=>he b o (Nat.ne_of_lt (Heap.lt_size e)) e
  refine assignInOrder_cons (wpAny_assign_Name (wpAny_storeName_local (lookup_relabel_local hx) (hn.at' fun o e=>he' _ o e) (fun h₆ hn₆ hs₆=>?_) (by simp [compEnvC,relabel,hkind])))
  refine assignInOrder_cons (wpAny_assign_Name (wpAny_storeName_local (lookup_relabel_local hy) hn₆ (fun h₃ hn₃ hs₃=>?_) (by simp [compEnvC,relabel,hkind])))
  exact assignInOrder_nil (h h₃ _ _ hn₃ (by simp [hxy]) (by simp) fun b o hb e=>hs₃.extBut b o hb (hs₆.extBut b o hb (he' b o e)))
theorem asgF_pair {x y:Str} {px py tp:Pos} {kk:Nat} {cn:Str} {ns:List (Str × NameKind)} {mo:List (Str × Const)} {a₀:Addr} {ccd:Value} {cl:List (Str × Addr)} {vals:List (Option Value)} {T:Addr} {a b:Value} {Q:Unit→Shared→Prop} (S:St w c (asg ns vals) own P s) (g:goodNs ns = true) (ht:s.heap.IsTuple T #[a,b])
    (h:SetQ ns vals x a (fun vals₁=>SetQ ns vals₁ y b (fun vals₂=>∀ s',St w c (asg ns vals₂) own P s'→Q () s'))) :
    wpAny (model rw_pq1024_01.row.prog w) c.A (assign (.Tuple [.Name x px,.Name y py] kk tp) (envX cn (fnSc ns mo) c.L a₀ ccd cl) (.ref T)) Q E s:=by
  refine assign_Tuple_tuple S.hh ht rfl rfl fun h₅ he=>?_
  have he':∀ b o,s.heap.get? b = some o→h₅.get? b = some o:=fun b o e=>he b o (Nat.ne_of_lt (Heap.lt_size e)) e
  have S₅:St w c (asg ns vals) own P { s with heap:=h₅ }:=S.same (tk:=s.toks) (S.F.keeps he') (S.N.grown he') S.ap S.nd
  refine ex1 h ?_;clear h;intro vals₁ hy16;refine an2 hy16 ?_;clear hy16;intro l₁ hz15;refine ex1 hz15 ?_;clear hz15;intro vals₂ hy17;refine an2 hy17 ?_;clear hy17;intro l₂ h
  refine assignInOrder_cons (wpAny_assign_Name (st_loc S₅ g ⟨vals₁,l₁,fun s₁ S₁=>?_⟩))
  exact assignInOrder_cons (wpAny_assign_Name (st_loc S₁ g ⟨vals₂,l₂,fun s₂ S₂=>assignInOrder_nil (h _ S₂)⟩))
end
end
section
open PySem.Calls
theorem cellsFrom_ge:∀ (ns:List (Str × NameKind)) (n k:Nat) (acc:List (Str × Addr)),k≤n→(∀ p∈acc,k≤(p.2:Nat))→∀ p∈cellsFrom n ns acc,k≤(p.2:Nat)
  | [],_,_,acc,_,h,p,hp=>h p hp
  | (name,kind)::r,n,k,acc,hk,h,p,hp=>by
    unfold cellsFrom at hp
    split at hp
    · refine cellsFrom_ge r (n + 1) k _ (Nat.le_succ_of_le hk) (fun q hq=>?_) p hp
      rcases List.mem_cons.mp hq with rfl | hq
      · exact hk
      · exact h q hq
    · exact cellsFrom_ge r n k acc hk h p hp
theorem cellsAre_mem {cm:Str→Option Value}:∀ {l:List (Str × Addr)} {cells:Led},CellsAre cm l cells→∀ p∈cells,∃ q∈l,q.2 = p.1∧p.2.data = .cell (cm q.1):=by
  intro l cells h
  induction h with
  | nil=>intro p hp;exact nomatch hp
  | cons h _ ih =>
    intro p hp
    rcases List.mem_cons.mp hp with rfl | hp
    · exact mk1 _ ⟨.head _,rfl,h⟩
    · refine ex1 (ih p hp) ?_;intro q hy1;refine an2 hy1 ?_;clear hy1;intro hq e
      exact mk1 q ⟨.tail _ hq,e⟩
theorem cellsGe {L':Addr} {ns:List (Str × NameKind)} {cm:Str→Option Value} {cells:Led} (h:CellsAre cm (cellsFrom (L' + 1) ns []) cells):∀ p∈cells,(L':Nat) + 1≤p.1:=fun p hp=>by
  refine ex1 (cellsAre_mem h p hp) ?_;intro q hy2;refine an3 hy2 ?_;clear hy2;intro hq e _
  rw [← e]
  exact cellsFrom_ge ns _ _ [] (Nat.le_refl _) (fun _ h=>nomatch h) q hq
theorem enterC {w:World} {c:Cx} {m:Str→Option Value} {own P:Led} {s:Shared} {Q E:Value→Shared→Prop} {K:Frag} {name qual:Str} {params:Arguments} {body:List Stmt} {ns:List (Str × NameKind)} {mo:List (Str × Const)} {dV kV doc pm cdv ct oc:Value} {an od:Option Addr} {osl:Array (Option Value)} {f:Addr} {vs:List Value} {vals:List (Option Value)} {Out:Led→Led→Value→Prop}
    (hK:K = hd.heap_39 w.params) (S:St w c m own P s)
    (ho:K.lookup f = some ⟨oc,od,.func (fnOf name qual params body (fnSc ns mo) dV kV doc pm an cdv ct),osl⟩) (hcd:codeIn K cdv qual = true) (hroom:c.A.depth < recursionLimit)
    (hbind:BindsTo s (fnOf name qual params body (fnSc ns mo) dV kV doc pm an cdv ct) ⟨vs,[]⟩ ((params.args.map (·.arg)).zip vs))
    (hkind:(((params.args.map (·.arg)).zip vs).all fun y=>ns.lookup y.1 == some .local || ns.lookup y.1 == some .cell) = true) (hnd:((cellsFrom 0 ns []).map (·.1)).Nodup) (hgood:goodNs ns = true)
    (hbL:∀ L',bindL (envOfC qual (fnSc ns mo) L' f cdv).kindOf ((params.args.map (·.arg)).zip vs) (fun _=>none) = asg ns vals)
    (h:∀ c' s' cc,goodNs ns = true→c'.A.depth = c.A.depth + 1→c'.A.units = c.A.units + 3→CellsAre (bindC (envOfC qual (fnSc ns mo) c'.L f cdv).kindOf ((params.args.map (·.arg)).zip vs) fun _=>none) (cellsFrom (c'.L + 1) ns []) cc→St w c' (asg ns vals) own (cc ++ P) s' →
      wpAny (model rw_pq1024_01.row.prog w) c'.A (execs body (envX qual (fnSc ns mo) c'.L f cdv (cellsFrom (c'.L + 1) ns []))) (fun fl s''=>Ends w c' P (fun cs P' r=>cs.map (·.1) = own.map (·.1)∧Out cs P' r) (match fl with | .ret v=>v | _=>.none) s'') (fun _ _=>False) s')
    (ret:∀ r own' P' s',St w c m own' P' s'→own'.map (·.1) = own.map (·.1)→(∀ p∈P,p∈P')→Out own' P' r→Q r s') :
    codeAny (model rw_pq1024_01.row.prog w) c.A (.call (.ref f) ⟨vs,[]⟩) (fun r s'=>match r with | .ok (.ret v)=>Q v s' | .ok _=>False | .error e=>E e s') s:=by
  subst hK
  refine ex1 (S.fr) ?_;intro e hy3;refine an3 hy3 ?_;clear hy3;intro hA hf hke
  refine code_defC (news:=own ++ P) S.B S.F S.X S.N S.T hA hf hke ho hcd hroom hbind hkind hnd (fun g L' h₁ tk cc FG F' N' Y B' X' T' lt=>?_) rfl rfl rfl
  rw [hbL] at F'
  let c':Cx:=⟨c.pp,c.loose,c.mean,c.mg,c.mb,c.A,c.base,e::c.outer,g,L',c.A.deeper (envOfC qual (fnSc ns mo) L' f cdv),s⟩
  have S':St w c' (asg ns vals) own (cc ++ P) { s with heap:=h₁,toks:=tk }:=by
    refine ⟨F',fun p hp=>N' p ?_,fun q hq p hp=>?_,S.nd,X',T',B',S.hh,⟨_,Around.frames_deeper B'.stack,rfl,rfl⟩,rfl,rfl,rfl⟩
    · rcases List.mem_append.mp hp with hp | hp
      · exact List.mem_append_right _ (List.mem_append_left _ hp)
      · rcases List.mem_append.mp hp with hp | hp
        · exact List.mem_append_left _ hp
        · exact List.mem_append_right _ (List.mem_append_right _ hp)
    · rcases List.mem_append.mp hp with hp | hp
      · have h1:=lt q (List.mem_append_left _ hq)
        have h2:=cellsGe Y p hp
        exact Nat.ne_of_gt (Nat.lt_trans h1 h2)
      · exact S.ap q hq p hp
  refine wpAny_mono (h c' _ cc hgood rfl rfl Y S') (fun fl s' hdn=>?_) fun _ _ e=>e.elim
  refine ex4 hdn ?_;clear hdn;intro m₂ own₂ ex P' hy4;refine an4 hy4 ?_;clear hy4;intro S₂ hs hcs hO
  refine mk3 L' m₂ ((own₂ ++ ex) ++ P') ⟨S₂.F,S₂.N,fun F₃ N₃=>?_⟩
  have eq':s' = { s with heap:=s'.heap,toks:=s'.toks }:=by
    have h1:=S₂.eg
    have h2:=S₂.ed
    have h3:=S₂.eo
    cases s'
    dsimp only [c'] at h1 h2 h3
    subst h1 h2 h3
    rfl
  refine ret _ own₂ P' s' ⟨F₃,fun p hp=>N₃ p ?_,fun q hq=>S₂.ap q (List.mem_append_left _ hq),by rw [hcs];exact S.nd,S.X,S.T,S.B,S.hh,S.fr,(congrArg Shared.gens eq').trans S.eg,(congrArg Shared.drawn eq').trans S.ed,(congrArg Shared.os eq').trans S.eo⟩ hcs hs hO
  rcases List.mem_append.mp hp with hp | hp
  · exact List.mem_append_left _ (List.mem_append_left _ hp)
  · exact List.mem_append_right _ hp
section
variable {w:World} {P:Led}
theorem mk_cint {i:Fin 8} {tk:Tok}:Pure w 3 P (call (.ref 66) [.int (i.val:Int) tk]) fun P' r=>TR w P' r (.cint i):=by
  refine c_Const.mono (Nat.le_refl _) fun P' r hs hh=>?_
  refine ex3 hh ?_;clear hh;intro x d t0 hh;refine an3 hh ?_;clear hh;intro e h1 h2
  exact mk1 x ⟨e,.cint h1 h2⟩
theorem mk_cun:Pure w 3 P (call (.ref 66) [.ref 427]) fun P' r=>TR w P' r .cun:=by
  refine c_Const.mono (Nat.le_refl _) fun P' r hs hh=>?_
  refine ex3 hh ?_;clear hh;intro x d t0 hh;refine an3 hh ?_;clear hh;intro e h1 h2
  exact mk1 x ⟨e,.cun h1 h2⟩
theorem mk_loc {n:Int} {tk:Tok}:Pure w 3 P (call (.ref 85) [.int n tk]) fun P' r=>TR w P' r (.loc n):=by
  refine c_Local.mono (Nat.le_refl _) fun P' r hs hh=>?_
  refine ex3 hh ?_;clear hh;intro x d t0 hh;refine an3 hh ?_;clear hh;intro e h1 h2
  exact mk1 x ⟨e,.loc h1 h2⟩
theorem mk_glob {n:Int} {tk:Tok}:Pure w 3 P (call (.ref 104) [.int n tk]) fun P' r=>TR w P' r (.glob n):=by
  refine c_Global.mono (Nat.le_refl _) fun P' r hs hh=>?_
  refine ex3 hh ?_;clear hh;intro x d t0 hh;refine an3 hh ?_;clear hh;intro e h1 h2
  exact mk1 x ⟨e,.glob h1 h2⟩
theorem mk_setl {n:Int} {tk:Tok} {v:Value} {t:T} (h:TR w P v t):Pure w 3 P (call (.ref 137) [.int n tk,v]) fun P' r=>TR w P' r (.setl n t):=by
  refine ex1 h ?_;clear h;intro a hy6;refine an2 hy6 ?_;clear hy6;intro hx5 h
  symm at hx5;subst hx5
  refine c_SetLocal.mono (Nat.le_refl _) fun P' r hs hh=>?_
  refine ex4 hh ?_;clear hh;intro x d t0 t1 hh;refine an3 hh ?_;clear hh;intro e h1 h2
  exact mk1 x ⟨e,.setl h1 h2 (h.mono hs)⟩
theorem mk_lam {l:Int} {k1 k3:Tok} {pl:Addr} {vs:List Value} {e:Nat} {ps:List Int} {v:Value} {t:T} (hl:(pl,listOf vs.toArray e)∈P) (hi:IntsAre vs ps) (h:TR w P v t):Pure w 3 P (call (.ref 184) [.int l k1,.ref pl,.int (-1) k3,v]) fun P' r=>TR w P' r (.lam l ps t):=by
  refine ex1 h ?_;clear h;intro a hy8;refine an2 hy8 ?_;clear hy8;intro hx7 h
  symm at hx7;subst hx7
  refine c_Lambda.mono (Nat.le_refl _) fun P' r hs hh=>?_
  refine ex6 hh ?_;clear hh;intro x d t0 t1 t2 t3 hh;refine an3 hh ?_;clear hh;intro e h1 h2
  exact mk1 x ⟨e,.lam h1 h2 (hs _ hl) hi (h.mono hs)⟩
theorem mk_call {ol:Addr} {vs:List Value} {e:Nat} {ts:List T} {v:Value} {t:T} (h:TR w P v t) (hl:(ol,listOf vs.toArray e)∈P) (hv:Nds w P vs ts):Pure w 3 P (call (.ref 217) [v,.ref ol]) fun P' r=>TR w P' r (.call t ts):=by
  refine ex1 h ?_;clear h;intro a hy10;refine an2 hy10 ?_;clear hy10;intro hx9 h
  symm at hx9;subst hx9
  refine c_Call.mono (Nat.le_refl _) fun P' r hs hh=>?_
  refine ex4 hh ?_;clear hh;intro x d t0 t1 hh;refine an3 hh ?_;clear hh;intro e h1 h2
  exact mk1 x ⟨e,.call h1 h2 (hs _ hl) (h.mono hs) (hv.mono hs)⟩
theorem mk_seq {ol:Addr} {vs:List Value} {e:Nat} {ts:List T} (hl:(ol,listOf vs.toArray e)∈P) (hv:Nds w P vs ts):Pure w 3 P (call (.ref 250) [.ref ol]) fun P' r=>TR w P' r (.seq ts):=by
  refine c_Seq.mono (Nat.le_refl _) fun P' r hs hh=>?_
  refine ex3 hh ?_;clear hh;intro x d t0 hh;refine an3 hh ?_;clear hh;intro e h1 h2
  exact mk1 x ⟨e,.seq h1 h2 (hs _ hl) (hv.mono hs)⟩
theorem mk_fix {nl ll:Addr} {us vs:List Value} {e1 e2:Nat} {ns:List Int} {ts:List T} {v:Value} {t:T} (h1:(nl,listOf us.toArray e1)∈P) (hi:IntsAre us ns) (h2:(ll,listOf vs.toArray e2)∈P) (hv:Nds w P vs ts) (h:TR w P v t):Pure w 3 P (call (.ref 283) [.ref nl,.ref ll,v]) fun P' r=>TR w P' r (.fix ns ts t):=by
  refine ex1 h ?_;clear h;intro a hy12;refine an2 hy12 ?_;clear hy12;intro hx11 h
  symm at hx11;subst hx11
  refine c_Fix.mono (Nat.le_refl _) fun P' r hs hh=>?_
  refine ex5 hh ?_;clear hh;intro x d t0 t1 t2 hh;refine an3 hh ?_;clear hh;intro e k1 k2
  exact mk1 x ⟨e,.fix k1 k2 (hs _ h1) hi (hs _ h2) (hv.mono hs) (h.mono hs)⟩
end
theorem Nds.of {w:World} {P:Led}:∀ {vs:List Value} {ts:List T},All2 (TR w P) vs ts→Nds w P vs ts:=by
  intro vs ts h
  induction h with
  | nil=>exact .nil
  | cons h _ ih=>refine ex1 h ?_;intro a h1;refine an2 h1 ?_;intro e h2;symm at e;subst e;exact .cons h2 ih
mutual
noncomputable def Sc (vis:List Int):T→Prop
  | .cint _=>True | .cun=>True | .glob _=>True
  | .loc n=>n∈vis
  | .setl n v=>n∈vis∧Sc vis v
  | .lam _ ps b=>Sc (ps ++ vis) b
  | .call f xs=>Sc vis f∧Scs vis xs
  | .seq xs=>Scs vis xs
  | .fix _ _ _=>False
noncomputable def Scs (vis:List Int):List T→Prop
  | []=>True
  | t::r=>Sc vis t∧Scs vis r
end
mutual
noncomputable def labs:T→List Int
  | .cint _=>[] | .cun=>[] | .glob _=>[] | .loc _=>[]
  | .setl _ v=>labs v
  | .lam l _ b=>l::labs b
  | .call f xs=>labs f ++ labss xs
  | .seq xs=>labss xs
  | .fix _ ls b=>labss ls ++ labs b
noncomputable def labss:List T→List Int
  | []=>[]
  | t::r=>labs t ++ labss r
end
mutual
noncomputable def binds:T→List Int
  | .cint _=>[] | .cun=>[] | .glob _=>[] | .loc _=>[]
  | .setl _ v=>binds v
  | .lam _ ps b=>ps ++ binds b
  | .call f xs=>binds f ++ bindss xs
  | .seq xs=>bindss xs
  | .fix _ ls b=>bindss ls ++ binds b
noncomputable def bindss:List T→List Int
  | []=>[]
  | t::r=>binds t ++ bindss r
end
/-- numbers of a stretch -/
noncomputable def In (a b:Int) (l:List Int):Prop:=l.Nodup∧∀ i∈l,a < i∧i≤b
theorem In.nil {a b:Int}:In a b []:=⟨List.nodup_nil,fun _ h=>nomatch h⟩
theorem In.append {a b c:Int} {l r:List Int} (h:In a b l) (k:In b c r) (hab:a≤b) (hbc:b≤c):In a c (l ++ r) :=
  ⟨List.nodup_append.mpr ⟨h.1,k.1,fun x hx y hy e=>by have:=h.2 x hx;have:=k.2 y hy;lia⟩,fun i hi=>by
    rcases List.mem_append.mp hi with hi | hi
    · have:=h.2 i hi;lia
    · have:=k.2 i hi;lia⟩
theorem In.flip {a b c:Int} {l r:List Int} (h:In a b l) (k:In b c r) (hab:a≤b) (hbc:b≤c):In a c (r ++ l):=by
  have:=h.append k hab hbc
  exact ⟨(List.perm_append_comm.nodup_iff).mp this.1,fun i hi=>this.2 i ((List.perm_append_comm.mem_iff).mp hi)⟩
theorem In.wide {a b a' b':Int} {l:List Int} (h:In a b l) (ha:a'≤a) (hb:b≤b'):In a' b' l:=⟨h.1,fun i hi=>by have:=h.2 i hi;lia⟩
theorem In.one {a b i:Int} (h:a < i) (k:i≤b):In a b [i]:=⟨by simp,fun j hj=>by rw [List.mem_singleton.mp hj];exact ⟨h,k⟩⟩
structure Bl (vis:List Int) (a b a' b':Int) (t:T):Prop where
  sc:Sc vis t
  bi:In a a' (binds t)
  la:In b b' (labs t)
  ha:a≤a'
  hb:b≤b'
structure Bls (vis:List Int) (a b a' b':Int) (ts:List T):Prop where
  sc:Scs vis ts
  bi:In a a' (bindss ts)
  la:In b b' (labss ts)
  ha:a≤a'
  hb:b≤b'
theorem Scs_append {vis:List Int}:∀ {a b:List T},Scs vis a→Scs vis b→Scs vis (a ++ b)
  | [],_,_,k=>k
  | _::_,_,h,k=>⟨h.1,Scs_append h.2 k⟩
theorem labss_append:∀ a b:List T,labss (a ++ b) = labss a ++ labss b
  | [],_=>rfl
  | t::r,b=>by simp only [List.cons_append,labss,labss_append r b,List.append_assoc]
theorem bindss_append:∀ a b:List T,bindss (a ++ b) = bindss a ++ bindss b
  | [],_=>rfl
  | t::r,b=>by simp only [List.cons_append,bindss,bindss_append r b,List.append_assoc]
theorem Bls.nil {vis:List Int} {a b:Int}:Bls vis a b a b []:=⟨trivial,In.nil,In.nil,Int.le_refl _,Int.le_refl _⟩
theorem Bl.one {vis:List Int} {a b a' b':Int} {t:T} (h:Bl vis a b a' b' t):Bls vis a b a' b' [t]:=⟨⟨h.sc,trivial⟩,by simpa [bindss] using h.bi,by simpa [labss] using h.la,h.ha,h.hb⟩
theorem Bls.append {vis:List Int} {a b a' b' a'' b'':Int} {ts us:List T} (h:Bls vis a b a' b' ts) (k:Bls vis a' b' a'' b'' us):Bls vis a b a'' b'' (ts ++ us) :=
  ⟨Scs_append h.sc k.sc,by rw [bindss_append];exact h.bi.append k.bi h.ha k.ha,by rw [labss_append];exact h.la.append k.la h.hb k.hb,by have:=h.ha;have:=k.ha;lia,by have:=h.hb;have:=k.hb;lia⟩
theorem Bl.wide {vis:List Int} {a b a' b' x y x' y':Int} {t:T} (h:Bl vis a b a' b' t) (h1:x≤a) (h2:y≤b) (h3:a'≤x') (h4:b'≤y'):Bl vis x y x' y' t :=
  ⟨h.sc,h.bi.wide h1 h3,h.la.wide h2 h4,by have:=h.ha;lia,by have:=h.hb;lia⟩
theorem Bl.loc {vis:List Int} {a b n:Int} (h:n∈vis):Bl vis a b a b (.loc n):=⟨h,In.nil,In.nil,Int.le_refl _,Int.le_refl _⟩
theorem Bl.glob {vis:List Int} {a b n:Int}:Bl vis a b a b (.glob n):=⟨trivial,In.nil,In.nil,Int.le_refl _,Int.le_refl _⟩
theorem Bl.cint {vis:List Int} {a b:Int} {i:Fin 8}:Bl vis a b a b (.cint i):=⟨trivial,In.nil,In.nil,Int.le_refl _,Int.le_refl _⟩
theorem Bl.cun {vis:List Int} {a b:Int}:Bl vis a b a b .cun:=⟨trivial,In.nil,In.nil,Int.le_refl _,Int.le_refl _⟩
theorem Bl.setl {vis:List Int} {a b a' b' n:Int} {t:T} (h:Bl vis a b a' b' t) (hn:n∈vis):Bl vis a b a' b' (.setl n t):=⟨⟨hn,h.sc⟩,h.bi,h.la,h.ha,h.hb⟩
theorem Bl.call {vis:List Int} {a b a' b' a'' b'':Int} {t:T} {ts:List T} (h:Bl vis a b a' b' t) (k:Bls vis a' b' a'' b'' ts):Bl vis a b a'' b'' (.call t ts) :=
  ⟨⟨h.sc,k.sc⟩,h.bi.append k.bi h.ha k.ha,h.la.append k.la h.hb k.hb,by have:=h.ha;have:=k.ha;lia,by have:=h.hb;have:=k.hb;lia⟩
theorem Bls.seq {vis:List Int} {a b a' b':Int} {ts:List T} (h:Bls vis a b a' b' ts):Bl vis a b a' b' (.seq ts):=⟨h.sc,h.bi,h.la,h.ha,h.hb⟩
end
section
open PySem.Calls
section
variable {w:World} {c:Cx} {m:Str→Option Value} {own P:Led} {s:Shared} {E:Value→Shared→Prop} {Q:Value→Shared→Prop} {cn:Str} {a:Addr} {ccd:Value} {cl:List (Str × Addr)}
theorem call4 {ns:List (Str × NameKind)} {mo:List (Str × Const)} {x:Str} {px pos:Pos} {fv:Value} {e1 e2 e3 e4:Expr} (S:St w c m own P s) (g:goodNs ns = true) (e:nsIn (hd.heap_39 w.params) mainGlobals x = some (some fv)) (hkp:keepIn (hd.heap_39 w.params) fv = true) (hx:(x,NameKind.globalImplicit)∈ns)
    (h:wpAny (model rw_pq1024_01.row.prog w) c.A (eval e1 (envX cn (fnSc ns mo) c.L a ccd cl)) (fun v1 s1=>wpAny (model rw_pq1024_01.row.prog w) c.A (eval e2 (envX cn (fnSc ns mo) c.L a ccd cl)) (fun v2 s2=>wpAny (model rw_pq1024_01.row.prog w) c.A (eval e3 (envX cn (fnSc ns mo) c.L a ccd cl)) (fun v3 s3=>wpAny (model rw_pq1024_01.row.prog w) c.A (eval e4 (envX cn (fnSc ns mo) c.L a ccd cl)) (fun v4 s4=>(hd.heap_39 w.params).In s4.heap∧wpAny (model rw_pq1024_01.row.prog w) c.A (call fv [v1,v2,v3,v4]) Q E s4) E s3) E s2) E s1) E s)
    (he1:starEach [e1,e2,e3,e4] (envX cn (fnSc ns mo) c.L a ccd cl) = (false,eval e1 (envX cn (fnSc ns mo) c.L a ccd cl))::starEach [e2,e3,e4] (envX cn (fnSc ns mo) c.L a ccd cl)) (he2:starEach [e2,e3,e4] (envX cn (fnSc ns mo) c.L a ccd cl) = (false,eval e2 (envX cn (fnSc ns mo) c.L a ccd cl))::starEach [e3,e4] (envX cn (fnSc ns mo) c.L a ccd cl))
    (he3:starEach [e3,e4] (envX cn (fnSc ns mo) c.L a ccd cl) = (false,eval e3 (envX cn (fnSc ns mo) c.L a ccd cl))::starEach [e4] (envX cn (fnSc ns mo) c.L a ccd cl)) (he4:starEach [e4] (envX cn (fnSc ns mo) c.L a ccd cl) = [(false,eval e4 (envX cn (fnSc ns mo) c.L a ccd cl))]) :
    wpAny (model rw_pq1024_01.row.prog w) c.A (eval (.Call (.Name x px) [e1,e2,e3,e4] [] pos) (envX cn (fnSc ns mo) c.L a ccd cl)) Q E s:=by
  refine Call_ (ev_glob S g e hx ?_)
  refine callWith_K S.X hkp ?_ he1 (by rw [he2,he3,he4];rfl)
  exact args_cons (wpAny_mono h (fun v s1 h1=>args_cons (wpAny_mono h1 (fun v2 s2 h2=>args_cons (wpAny_mono h2 (fun v3 s3 h3=>args_cons (wpAny_mono h3 (fun v4 s4 h4=>args_nil h4) fun _ _ e=>e) he4) fun _ _ e=>e) he3) fun _ _ e=>e) he2) fun _ _ e=>e) he1
theorem useP {k:Nat} {t:Sem Value} {Out:Led→Value→Prop} (h:Pure w k P t Out) (S:St w c m own P s) (hd:c.A.depth + k < recursionLimit) (hu:c.A.units + 8 * k < cLine) (ret:∀ r P' s',St w c m own P' s'→(∀ p∈P,p∈P')→Out P' r→Q r s') :
    wpAny (model rw_pq1024_01.row.prog w) c.A t Q E s:=h c m own s Q E S hd hu ret
theorem negS {n:Int} {t:Tok} (S:St w c m own P s) (h:∀ s' tk,St w c m own P s'→Q (.int (-n) tk) s'):wpAny (model rw_pq1024_01.row.prog w) c.A (unaryOp .USub (.int n t)) Q E s:=PySem.P.neg_int (h _ _ (S.tok _))
theorem unp2 {T:Addr} {x y:Value} {e:Nat} {Q:List Value→Shared→Prop} (S:St w c m own P s) (ht:(T,tupOf [x,y] e)∈P) (h:∀ s',St w c m own P s'→Q [x,y] s') :
    wpAny (model rw_pq1024_01.row.prog w) c.A (unpackItems (.ref T) 2 none) Q E s :=
  unpackItems_tuple (items:=#[x,y]) S.hh ⟨_,S.inP ht,rfl,_,rfl⟩ fun h' he=>h _ (by
    have he':∀ b o,s.heap.get? b = some o→h'.get? b = some o:=fun b o e=>he b o (Nat.ne_of_lt (Heap.lt_size e)) e
    exact S.same (tk:=s.toks) (S.F.keeps he') (S.N.grown he') S.ap S.nd)
theorem cutE {t:Sem Value} (S:St w c m own P s) (Mid:(Str→Option Value)→Value→Shared→Prop) (h1:wpAny (model rw_pq1024_01.row.prog w) c.A t (Mid m) E s) (h2:∀ v s',Mid m v s'→Q v s'):wpAny (model rw_pq1024_01.row.prog w) c.A t Q E s :=
  wpAny_mono h1 h2 fun _ _ e=>e
theorem ifB {b:Bool} {X Y:Prop} (ht:b = true→X) (hf:b = false→Y):if b = true then X else Y:=by
  cases b with
  | true=>rw [if_pos rfl];exact ht rfl
  | false=>rw [if_neg (by decide)];exact hf rfl
end
mutual
theorem Sc_mono {vis vis':List Int} (hs:∀ n∈vis,n∈vis'):∀ {t:T},Sc vis t→Sc vis' t
  | .cint _,_=>trivial
  | .cun,_=>trivial
  | .glob _,_=>trivial
  | .loc _,h=>hs _ h
  | .setl _ _,h=>⟨hs _ h.1,Sc_mono hs h.2⟩
  | .lam _ ps b,h=>Sc_mono (vis:=ps ++ vis) (vis':=ps ++ vis') (t:=b) (fun n hn=>by
      rcases List.mem_append.mp hn with hn | hn
      · exact List.mem_append_left _ hn
      · exact List.mem_append_right _ (hs n hn)) h
  | .call _ _,h=>⟨Sc_mono hs h.1,Scs_mono hs h.2⟩
  | .seq _,h=>Scs_mono hs (ts:=_) h
  | .fix _ _ _,h=>h
theorem Scs_mono {vis vis':List Int} (hs:∀ n∈vis,n∈vis'):∀ {ts:List T},Scs vis ts→Scs vis' ts
  | [],_=>trivial
  | _::_,h=>⟨Sc_mono hs h.1,Scs_mono hs h.2⟩
end
theorem Bl.lamV {vis:List Int} {a b a' b' k:Int} {t:T} (h:Bl vis a b a' b' t) (hk:k∈vis):Bl vis a b (a' + 1) (b' + 1) (.lam (b' + 1) [a' + 1] (.seq [.call (.loc k) [.loc (a' + 1)],t])):=by
  refine ⟨?_,?_,?_,by have:=h.ha;lia,by have:=h.hb;lia⟩
  · show Sc ([a' + 1] ++ vis) (.seq _)
    exact ⟨⟨List.mem_append_right _ hk,List.mem_append_left _ (.head _),trivial⟩,Sc_mono (fun n hn=>List.mem_append_right _ hn) h.sc,trivial⟩
  · have:=h.bi.flip (In.one (a:=a') (b:=a' + 1) (i:=a' + 1) (by lia) (by lia)) h.ha (by lia)
    simpa [binds,bindss] using this
  · have:=h.la.flip (In.one (a:=b') (b:=b' + 1) (i:=b' + 1) (by lia) (by lia)) h.hb (by lia)
    simpa [labs,labss] using this
noncomputable def szV:Nat→Nat
  | 0=>7
  | d + 1=>28 + 5 * szV d
noncomputable def BS (w:World) (c:Cx) (m:Str→Option Value) (D X:Addr) (own P:Led) (a b:Int) (s:Shared):Prop :=
  ∃ xs n e t1 t2,St w c m ((D,listOf (xs:List Value).toArray n)::(X,listOf [.int a t1,.int b t2].toArray e)::own) P s∧Dk xs
section
variable {w:World} {c:Cx} {m:Str→Option Value} {own P:Led} {s:Shared} {E:Value→Shared→Prop} {Q:Value→Shared→Prop} {D X:Addr} {a b:Int} {xs:List Value} {n e:Nat} {t1 t2:Tok}
theorem drawB {many:Int} {u:Tok} (S:St w c m ((D,listOf xs.toArray n)::(X,listOf [.int a t1,.int b t2].toArray e)::own) P s) (hk:Dk xs) (h1:0 < many) (h2:many < 1000) (hdp:c.A.depth + 2 < recursionLimit) (hu:c.A.units + 80 < cLine)
    (ret:∀ r tk s',BS w c m D X own P a b s'→0≤r→r < many→Q (.int r tk) s'):wpAny (model rw_pq1024_01.row.prog w) c.A (call (.ref 519) [.ref D,.int many u]) Q E s :=
  draw S hk h1 h2 hdp hu fun r tk xs' n' s' S' hk' h0 h3=>ret r tk s' (mk5 _ _ _ _ _ ⟨S',hk'⟩) h0 h3
theorem oneB {it:Addr} {vs:List Value} {e':Nat} {ns:List Int} (S:St w c m ((D,listOf xs.toArray n)::(X,listOf [.int a t1,.int b t2].toArray e)::own) P s) (hk:Dk xs) (hit:(it,listOf vs.toArray e')∈P) (hi:IntsAre vs ns) (h1:0 < vs.length) (h2:vs.length < 1000) (hdp:c.A.depth + 3 < recursionLimit) (hu:c.A.units + 90 < cLine)
    (ret:∀ r tk s',BS w c m D X own P a b s'→r∈ns→Q (.int r tk) s'):wpAny (model rw_pq1024_01.row.prog w) c.A (call (.ref 531) [.ref D,.ref it]) Q E s :=
  one S hk hit hi h1 h2 hdp hu fun r tk xs' n' s' S' hk' h0=>ret r tk s' (mk5 _ _ _ _ _ ⟨S',hk'⟩) h0
theorem new0B {u:Tok} (S:St w c m ((D,listOf xs.toArray n)::(X,listOf [.int a t1,.int b t2].toArray e)::own) P s) (hk:Dk xs) (hdp:c.A.depth + 1 < recursionLimit) (hu:c.A.units + 80 < cLine)
    (ret:∀ tk s',BS w c m D X own P (a + 1) b s'→Q (.int (a + 1) tk) s'):wpAny (model rw_pq1024_01.row.prog w) c.A (call (.ref 538) [.ref X,.int 0 u]) Q E s :=
  new0 S.swap hdp hu fun tk tk' n' s' S'=>ret tk s' (mk5 _ _ _ _ _ ⟨S'.swap,hk⟩)
theorem new1B {u:Tok} (S:St w c m ((D,listOf xs.toArray n)::(X,listOf [.int a t1,.int b t2].toArray e)::own) P s) (hk:Dk xs) (hdp:c.A.depth + 1 < recursionLimit) (hu:c.A.units + 80 < cLine)
    (ret:∀ tk s',BS w c m D X own P a (b + 1) s'→Q (.int (b + 1) tk) s'):wpAny (model rw_pq1024_01.row.prog w) c.A (call (.ref 538) [.ref X,.int 1 u]) Q E s :=
  new1 S.swap hdp hu fun tk tk' n' s' S'=>ret tk s' (mk5 _ _ _ _ _ ⟨S'.swap,hk⟩)
end
noncomputable def Maker (w:World) (f:Addr) (d k sz dp q:Nat):Prop:=∀ (c:Cx) (m:Str→Option Value) (own P:Led) (s:Shared) (Q E:Value→Shared→Prop) (D X:Addr) (a b:Int) (kn:Addr) (vs:List Value) (ek:Nat) (known:List Int) (u:Tok),BS w c m D X own P a b s→(kn,listOf vs.toArray ek)∈P→IntsAre vs known→0 < vs.length→vs.length + 4 * d≤q →
  c.A.depth + k < recursionLimit→c.A.units + 8 * k + 200 < cLine→(∀ r P' s' a' b' t,BS w c m D X own P' a' b' s'→(∀ p∈P,p∈P')→TR w P' r t→Bl known a b a' b' t→t.size≤sz→t.dep≤dp→Q r s') →
  wpAny (model rw_pq1024_01.row.prog w) c.A (call (.ref f) [.ref D,.ref X,.ref kn,.int (d:Int) u]) Q E s
end
section
open PySem.Calls
theorem value_of {w:World} (d k sz dp:Nat) (hk6:6≤k) (hsz:1≤sz) (hdp1:1≤dp) (L:∀ d',d = d' + 1→Maker w 555 d' k sz dp 56):Maker w 550 d (k + 1) (sz + 6) (dp + 3) 60:=by
  intro c m own P s Q E D X a b kn vs ek known u B hkn hi hv hv2 hdp hu ret
  refine ex5 B ?_;clear B;intro xs n e t1 t2 hy1;refine an2 hy1 ?_;clear hy1;intro S hD
  have Xf:=S.X
  refine wpAny_call ?_
  refine enterM (K:=hd.heap_39 _) (cells:=[(D,listOf xs.toArray n),(X,listOf [.int a t1,.int b t2].toArray e)]) (rest:=own) (P:=P)
    (Out:=fun cs P' r=>∃ xs' n' e' u1 u2 a' b' t,cs = [(D,listOf (xs':List Value).toArray n'),(X,listOf [.int a' u1,.int b' u2].toArray e')]∧Dk xs'∧TR w P' r t∧Bl known a b a' b' t∧t.size≤sz + 6∧t.dep≤dp + 3) rfl S (by k_is) (by k_is) (by lia) (by exact BindsTo.of_eq rfl) (by exact rfl) (by kernel_rfl) ?_ ?_
  · intro c' s' gN hd' hu' S'
    dsimp only [List.map] at S'
    have e1:c'.A.depth + k < recursionLimit:=by lia
    have e2:c'.A.units + 8 * k + 200 < cLine:=by lia
    have hv3:vs.length < 1000:=by lia
    have d1:c'.A.depth + 1 < recursionLimit:=by first | exact bl ‹_› ‹_› (by exact rfl) | lia
    have d2:c'.A.depth + 2 < recursionLimit:=by first | exact bl ‹_› ‹_› (by exact rfl) | lia
    have d3:c'.A.depth + 3 < recursionLimit:=by first | exact bl ‹_› ‹_› (by exact rfl) | lia
    have u8:c'.A.units + 80 < cLine:=by first | exact bl ‹_› ‹_› (by exact rfl) | lia
    have u9:c'.A.units + 90 < cLine:=by first | exact bl ‹_› ‹_› (by exact rfl) | lia
    have u3:c'.A.units + 8 * 3 < cLine:=by first | exact bl ‹_› ‹_› (by exact rfl) | lia
    clear ret S hdp hu hd' hu'
    with_reducible (refine nameQ ?_;intro _ _;refine eN ?_;intro _ _ _;refine wpAny_Assign_Name ?_ (by k_dflt rfl);refine call2 (x:=Str.ofString "_law_draw") ‹_› ‹_› (g_law_draw _) (kp_law_draw _) mm8 ?_ (by k_dflt rfl) (by k_dflt rfl);refine ev_lv ‹_› ‹_› LocV.a0 ?_;refine ev_int ‹_› ?_;intro _ _ _;refine And.intro (St.kin ‹_›) ?_)
    refine drawB ‹_› hD (by decide) (by decide) d2 u8 ?_
    intro way tkw s1 B h0 h5
    refine ex5 B ?_;clear B;intro xs n e t1 t2 hy2;refine an2 hy2 ?_;clear hy2;intro S hD
    with_reducible (refine st_loc ‹_› ‹_› ?_;refine SetQ.i (SetL.there (SetL.there (SetL.there (SetL.there (SetL.hereN))))) ?_;intro _ _;refine (by assumption:Nxt _ _ _ _ _ _ _) _ ?_;refine eI ‹_› ?_;intro _ _ _;refine If_N ?_;intro _ _;refine wpAny_isTrue_Compare1 ?_ (by k_dflt rfl);refine ev_lv ‹_› ‹_› LocV.a4 ?_;refine ev_int ‹_› ?_;intro _ _ _;refine PySem.P.lt_int ?_;refine wpAny_truthy_bool ?_;refine (by assumption:ImpG _ _) _ _ ?_)
    refine ifB (fun hb=>?_) (fun hb=>?_)
    · (refine eN ?_;intro _ _ _)
      refine wpAny_Assign_Name ?_ (by k_dflt rfl)
      refine cutE ‹_› (fun m' v s'=>∃ P' a' b' t,BS w c' m' D X [] P' a' b' s'∧(∀ p∈P,p∈P')∧TR w P' v t∧Bl known a b a' b' t∧t.size≤sz∧t.dep≤dp) ?_ ?_
      · with_reducible (refine IfExp_ ?_;refine isTrue_and ?_;refine wpAny_isTrue_Compare1 ?_ (by k_dflt rfl);refine ev_lv ‹_› ‹_› LocV.a3 ?_;refine ev_int ‹_› ?_;intro _ _ _;refine PySem.P.gt_int ?_;refine wpAny_truthy_bool ?_)
        refine ifB (fun hd=>?_) (fun hd=>?_)
        · with_reducible (refine isTrue_and ?_;refine wpAny_isTrue_Compare1 ?_ (by k_dflt rfl);refine call2 (x:=Str.ofString "_law_draw") ‹_› ‹_› (g_law_draw _) (kp_law_draw _) mm8 ?_ (by k_dflt rfl) (by k_dflt rfl);refine ev_lv ‹_› ‹_› LocV.a0 ?_;refine ev_int ‹_› ?_;intro _ _ _;refine And.intro (St.kin ‹_›) ?_)
          refine drawB ‹_› hD (by decide) (by decide) d2 u8 ?_
          intro r tkr s1 B hr0 hr3
          refine ex5 B ?_;clear B;intro xs n e t1 t2 hy3;refine an2 hy3 ?_;clear hy3;intro S hD
          with_reducible (refine ev_int ‹_› ?_;intro _ _ _;refine eq_int ?_;refine wpAny_truthy_bool ?_)
          refine ifB (fun hr=>?_) (fun hr=>?_)
          · with_reducible (refine isTrue_and_nil ?_;refine ite_tt ?_;refine call4 (x:=Str.ofString "_law_late") ‹_› ‹_› (g_law_late _) (kp_law_late _) mm9 ?_ (by k_dflt rfl) (by k_dflt rfl) (by k_dflt rfl) (by k_dflt rfl);refine ev_lv ‹_› ‹_› LocV.a0 ?_;refine ev_lv ‹_› ‹_› LocV.a1 ?_;refine ev_lv ‹_› ‹_› LocV.a2 ?_;refine wpAny_BinOp ?_;refine ev_lv ‹_› ‹_› LocV.a3 ?_;refine ev_int ‹_› ?_;intro _ _ _;refine subS ‹_› ?_;intro _ _ _;refine And.intro (St.kin ‹_›) ?_)
            obtain ⟨d',rfl⟩:∃ d',d = d' + 1:=⟨d - 1,by have:=of_decide_eq_true hd;lia⟩
            rw [show ((d' + 1:Nat):Int) - 1 = (d':Int) by lia]
            refine L d' rfl _ _ _ _ _ _ _ _ _ _ _ _ _ _ _ _ (mk5 _ _ _ _ _ ⟨by assumption,hD⟩) hkn hi hv (by lia) (by lia) (by lia) ?_
            intro r P' s' a' b' t B hs hT hB h1 h2
            exact mk4 P' a' b' t ⟨B,hs,hT,hB,h1,h2⟩
          · with_reducible (refine ite_ff ?_;refine call1 (x:=Str.ofString "Local") ‹_› ‹_› (g_Local _) (kp_Local _) mm10 ?_ (by k_dflt rfl);refine call2 (x:=Str.ofString "_law_one") ‹_› ‹_› (g_law_one _) (kp_law_one _) mm11 ?_ (by k_dflt rfl) (by k_dflt rfl);refine ev_lv ‹_› ‹_› LocV.a0 ?_;refine ev_lv ‹_› ‹_› LocV.a2 ?_;refine And.intro (St.kin ‹_›) ?_)
            refine oneB ‹_› hD hkn hi hv hv3 d3 u9 ?_
            intro r tkr s1 B hr
            refine ex5 B ?_;clear B;intro xs n e t1 t2 hy4;refine an2 hy4 ?_;clear hy4;intro S hD
            with_reducible (refine And.intro (St.kin ‹_›) ?_)
            refine useP mk_loc ‹_› d3 u3 ?_
            intro v P' s' S' hs hT
            exact mk4 P' a b _ ⟨(mk5 _ _ _ _ _ ⟨S',hD⟩),hs,hT,Bl.loc hr,by simpa [T.size] using hsz,by simpa [T.dep] using hdp1⟩
        · with_reducible (refine ite_ff ?_;refine call1 (x:=Str.ofString "Local") ‹_› ‹_› (g_Local _) (kp_Local _) mm10 ?_ (by k_dflt rfl);refine call2 (x:=Str.ofString "_law_one") ‹_› ‹_› (g_law_one _) (kp_law_one _) mm11 ?_ (by k_dflt rfl) (by k_dflt rfl);refine ev_lv ‹_› ‹_› LocV.a0 ?_;refine ev_lv ‹_› ‹_› LocV.a2 ?_;refine And.intro (St.kin ‹_›) ?_)
          refine oneB ‹_› hD hkn hi hv hv3 d3 u9 ?_
          intro r tkr s1 B hr
          refine ex5 B ?_;clear B;intro xs n e t1 t2 hy5;refine an2 hy5 ?_;clear hy5;intro S hD
          with_reducible (refine And.intro (St.kin ‹_›) ?_)
          refine useP mk_loc ‹_› d3 u3 ?_
          intro v P' s' S' hs hT
          exact mk4 P' a b _ ⟨(mk5 _ _ _ _ _ ⟨S',hD⟩),hs,hT,Bl.loc hr,by simpa [T.size] using hsz,by simpa [T.dep] using hdp1⟩
      · intro v s' hx6
        refine ex4 hx6 ?_;clear hx6;intro P' a' b' t hy7;refine an6 hy7 ?_;clear hy7;intro B hs hT hB h1 h2
        refine ex5 B ?_;clear B;intro xs n e t1 t2 hy8;refine an2 hy8 ?_;clear hy8;intro S hD
        with_reducible (refine st_loc ‹_› ‹_› ?_;refine SetQ.i (SetL.there (SetL.there (SetL.there (SetL.there (SetL.there (SetL.hereN)))))) ?_;intro _ _;refine (by assumption:Nxt _ _ _ _ _ _ _) _ ?_;refine eA ‹_› ?_;intro _ _ _)
        refine Assign_Tuple_swapped ?_ (by k_dflt rfl) (by k_dflt rfl)
        with_reducible (refine Tuple_ ?_;refine sp1 ?_ (by k_dflt rfl);refine call2 (x:=Str.ofString "_law_new") ‹_› ‹_› (g_law_new _) (kp_law_new _) mm12 ?_ (by k_dflt rfl) (by k_dflt rfl);refine ev_lv ‹_› ‹_› LocV.a1 ?_;refine ev_int ‹_› ?_;intro _ _ _;refine And.intro (St.kin ‹_›) ?_)
        refine new0B ‹_› hD d1 u8 ?_
        intro tk1 s1 B
        refine ex5 B ?_;clear B;intro xs n e t1 t2 hy9;refine an2 hy9 ?_;clear hy9;intro S hD
        with_reducible (refine sp1 ?_ (by k_dflt rfl);refine call2 (x:=Str.ofString "_law_new") ‹_› ‹_› (g_law_new _) (kp_law_new _) mm12 ?_ (by k_dflt rfl) (by k_dflt rfl);refine ev_lv ‹_› ‹_› LocV.a1 ?_;refine ev_int ‹_› ?_;intro _ _ _;refine And.intro (St.kin ‹_›) ?_)
        refine new1B ‹_› hD d1 u8 ?_
        intro tk1 s1 B
        refine ex5 B ?_;clear B;intro xs n e t1 t2 hy10;refine an2 hy10 ?_;clear hy10;intro S hD
        with_reducible (refine sp0 ?_;refine nt ‹_› ?_ sl2;intro _ _ _)
        refine unp2 ‹_› (by k_mem) ?_
        intro s2 S2
        refine assignInOrder_cons (wpAny_bindName ?_)
        with_reducible (refine st_loc ‹_› ‹_› ?_;refine SetQ.i (SetL.there (SetL.there (SetL.there (SetL.there (SetL.there (SetL.there (SetL.thereN (SetL.hereN)))))))) ?_;intro _ _)
        refine assignInOrder_cons (wpAny_bindName ?_)
        with_reducible (refine st_loc ‹_› ‹_› ?_;refine SetQ.i (SetL.a6) ?_;intro _ _)
        refine assignInOrder_nil ?_
        with_reducible (refine (by assumption:Nxt _ _ _ _ _ _ _) _ ?_;refine eA ‹_› ?_;intro _ _ _;refine wpAny_Return_some ?_;refine call4 (x:=Str.ofString "Lambda") ‹_› ‹_› (g_Lambda _) (kp_Lambda _) mm13 ?_ (by k_dflt rfl) (by k_dflt rfl) (by k_dflt rfl) (by k_dflt rfl);refine ev_lv ‹_› ‹_› LocV.a7 ?_;refine List_ ?_;refine sp1 ?_ (by k_dflt rfl);refine ev_lv ‹_› ‹_› LocV.a6 ?_;refine sp0 ?_;refine nl ‹_› ?_ sl1;intro _ _ _;refine UnaryOp_ ?_;refine ev_int ‹_› ?_;intro _ _ _;refine negS ‹_› ?_;intro _ _ _;refine call1 (x:=Str.ofString "Seq") ‹_› ‹_› (g_Seq _) (kp_Seq _) mm14 ?_ (by k_dflt rfl);refine List_ ?_;refine sp1 ?_ (by k_dflt rfl);refine call2 (x:=Str.ofString "Call") ‹_› ‹_› (g_Call _) (kp_Call _) mm15 ?_ (by k_dflt rfl) (by k_dflt rfl);refine call1 (x:=Str.ofString "Local") ‹_› ‹_› (g_Local _) (kp_Local _) mm10 ?_ (by k_dflt rfl);refine call2 (x:=Str.ofString "_law_one") ‹_› ‹_› (g_law_one _) (kp_law_one _) mm11 ?_ (by k_dflt rfl) (by k_dflt rfl);refine ev_lv ‹_› ‹_› LocV.a0 ?_;refine ev_lv ‹_› ‹_› LocV.a2 ?_;refine And.intro (St.kin ‹_›) ?_)
        have hkn1:=hs _ hkn
        refine oneB ‹_› hD (by k_mem) hi hv hv3 d3 u9 ?_
        intro r tkr s1 B hr
        refine ex5 B ?_;clear B;intro xs n e t1 t2 hy11;refine an2 hy11 ?_;clear hy11;intro S hD
        with_reducible (refine And.intro (St.kin ‹_›) ?_)
        refine useP mk_loc ‹_› d3 u3 ?_
        intro v1 P1 s1 S1 hs1 hT1
        with_reducible (refine List_ ?_;refine sp1 ?_ (by k_dflt rfl);refine call1 (x:=Str.ofString "Local") ‹_› ‹_› (g_Local _) (kp_Local _) mm10 ?_ (by k_dflt rfl);refine ev_lv ‹_› ‹_› LocV.a6 ?_;refine And.intro (St.kin ‹_›) ?_)
        refine useP mk_loc ‹_› d3 u3 ?_
        intro v2 P2 s2 S2 hs2 hT2
        with_reducible (refine sp0 ?_;refine nl ‹_› ?_ sl1;intro _ _ _;refine And.intro (St.kin ‹_›) ?_)
        refine useP (mk_call (ts:=[_]) (TR.mono _ _ _ _ (fun p hp=>.tail _ (hs2 _ hp)) hT1) (.head _) (Nds.of (.cons (TR.mono _ _ _ _ (fun p hp=>.tail _ hp) hT2) .nil))) ‹_› d3 u3 ?_
        intro v3 P3 s3 S3 hs3 hT3
        with_reducible (refine sp1 ?_ (by k_dflt rfl);refine ev_lv ‹_› ‹_› LocV.a5 ?_;refine sp0 ?_;refine nl ‹_› ?_ sl2;intro _ _ _;refine And.intro (St.kin ‹_›) ?_)
        have hT0:=TR.mono _ _ _ _ (fun p hp=>hs3 _ (.tail _ (hs2 _ (hs1 _ (.tail _ (.tail _ hp)))))) hT
        refine useP (mk_seq (ts:=[_,_]) (.head _) (Nds.of (.cons (TR.mono _ _ _ _ (fun p hp=>.tail _ hp) hT3) (.cons (TR.mono _ _ _ _ (fun p hp=>.tail _ hp) hT0) .nil)))) ‹_› d3 u3 ?_
        intro v4 P4 s4 S4 hs4 hT4
        with_reducible (refine And.intro (St.kin ‹_›) ?_)
        refine useP (mk_lam (hs4 _ (.tail _ (hs3 _ (.tail _ (hs2 _ (hs1 _ (.head _))))))) (IntsAre.cons _ _ .nil) hT4) ‹_› d3 u3 ?_
        intro v5 P5 s5 S5 hs5 hT5
        with_reducible (refine (by assumption:Abr _ _) _ _ (by k_dflt rfl) ?_;refine (by assumption:Abr _ _) _ _ (by k_dflt rfl) ?_;refine (by assumption:Imp _ _) _ _ ?_)
        refine mk4 _ [(D,_),(X,_)] [] P5 ⟨S5,fun p hp=>hs5 _ (hs4 _ (.tail _ (hs3 _ (.tail _ (hs2 _ (hs1 _ (.tail _ (.tail _ (hs _ hp))))))))),(by rfl),mk8 _ _ _ _ _ _ _ _ ⟨rfl,hD,hT5,Bl.lamV hB hr,?_,?_⟩⟩
        · simp [T.size,sizes];lia
        · simp [T.dep,deps];lia
    · with_reducible (refine wpAny_execs_nil ?_;refine (by assumption:Nxt _ _ _ _ _ _ _) _ ?_;refine eI ‹_› ?_;intro _ _ _;refine wpAny_Return_some ?_;refine IfExp_ ?_;refine wpAny_isTrue_Compare1 ?_ (by k_dflt rfl);refine ev_lv ‹_› ‹_› LocV.a4 ?_;refine ev_int ‹_› ?_;intro _ _ _;refine eq_int ?_;refine wpAny_truthy_bool ?_)
      refine ifB (fun hr=>?_) (fun hr=>?_)
      · with_reducible (refine call1 (x:=Str.ofString "Const") ‹_› ‹_› (g_Const _) (kp_Const _) mm16 ?_ (by k_dflt rfl);refine call2 (x:=Str.ofString "_law_draw") ‹_› ‹_› (g_law_draw _) (kp_law_draw _) mm8 ?_ (by k_dflt rfl) (by k_dflt rfl);refine ev_lv ‹_› ‹_› LocV.a0 ?_;refine ev_int ‹_› ?_;intro _ _ _;refine And.intro (St.kin ‹_›) ?_)
        refine drawB ‹_› hD (by decide) (by decide) d2 u8 ?_
        intro r tkr s1 B hr0 hr3
        refine ex5 B ?_;clear B;intro xs n e t1 t2 hy12;refine an2 hy12 ?_;clear hy12;intro S hD
        obtain ⟨i,rfl⟩:∃ i:Fin 8,r = (i.val:Int):=⟨⟨r.toNat,by lia⟩,by show r = ((r.toNat:Nat):Int);lia⟩
        with_reducible (refine And.intro (St.kin ‹_›) ?_)
        refine useP mk_cint ‹_› d3 u3 ?_
        intro v P' s' S' hs hT
        with_reducible (refine (by assumption:Abr _ _) _ _ (by k_dflt rfl) ?_;refine (by assumption:Imp _ _) _ _ ?_)
        exact mk4 _ [(D,_),(X,_)] [] P' ⟨S',hs,(by rfl),mk8 _ _ _ _ _ a b _ ⟨rfl,hD,hT,Bl.cint,by simp [T.size],by simp [T.dep]⟩⟩
      · with_reducible (refine call2 (x:=Str.ofString "Call") ‹_› ‹_› (g_Call _) (kp_Call _) mm15 ?_ (by k_dflt rfl) (by k_dflt rfl);refine call1 (x:=Str.ofString "Global") ‹_› ‹_› (g_Global _) (kp_Global _) mm17 ?_ (by k_dflt rfl);refine call2 (x:=Str.ofString "_law_draw") ‹_› ‹_› (g_law_draw _) (kp_law_draw _) mm8 ?_ (by k_dflt rfl) (by k_dflt rfl);refine ev_lv ‹_› ‹_› LocV.a0 ?_;refine ev_int ‹_› ?_;intro _ _ _;refine And.intro (St.kin ‹_›) ?_)
        refine drawB ‹_› hD (by decide) (by decide) d2 u8 ?_
        intro r tkr s1 B hr0 hr3
        refine ex5 B ?_;clear B;intro xs n e t1 t2 hy13;refine an2 hy13 ?_;clear hy13;intro S hD
        with_reducible (refine And.intro (St.kin ‹_›) ?_)
        refine useP mk_glob ‹_› d3 u3 ?_
        intro v1 P1 s1 S1 hs1 hT1
        with_reducible (refine List_ ?_;refine sp1 ?_ (by k_dflt rfl);refine call1 (x:=Str.ofString "Local") ‹_› ‹_› (g_Local _) (kp_Local _) mm10 ?_ (by k_dflt rfl);refine call2 (x:=Str.ofString "_law_one") ‹_› ‹_› (g_law_one _) (kp_law_one _) mm11 ?_ (by k_dflt rfl) (by k_dflt rfl);refine ev_lv ‹_› ‹_› LocV.a0 ?_;refine ev_lv ‹_› ‹_› LocV.a2 ?_;refine And.intro (St.kin ‹_›) ?_)
        have hkn1:=hs1 _ hkn
        refine oneB ‹_› hD (by k_mem) hi hv hv3 d3 u9 ?_
        intro r tkr s1 B hr
        refine ex5 B ?_;clear B;intro xs n e t1 t2 hy14;refine an2 hy14 ?_;clear hy14;intro S hD
        with_reducible (refine And.intro (St.kin ‹_›) ?_)
        refine useP mk_loc ‹_› d3 u3 ?_
        intro v2 P2 s2 S2 hs2 hT2
        with_reducible (refine sp0 ?_;refine nl ‹_› ?_ sl1;intro _ _ _;refine And.intro (St.kin ‹_›) ?_)
        refine useP (mk_call (ts:=[_]) (TR.mono _ _ _ _ (fun p hp=>.tail _ (hs2 _ hp)) hT1) (.head _) (Nds.of (.cons (TR.mono _ _ _ _ (fun p hp=>.tail _ hp) hT2) .nil))) ‹_› d3 u3 ?_
        intro v3 P3 s3 S3 hs3 hT3
        with_reducible (refine (by assumption:Abr _ _) _ _ (by k_dflt rfl) ?_;refine (by assumption:Imp _ _) _ _ ?_)
        exact mk4 _ [(D,_),(X,_)] [] P3 ⟨S3,fun p hp=>hs3 _ (.tail _ (hs2 _ (hs1 _ hp))),(by rfl),mk8 _ _ _ _ _ a b _ ⟨rfl,hD,hT3,Bl.call Bl.glob (Bl.one (Bl.loc hr)),by simp only [T.size,sizes];lia,by simp only [T.dep,deps];lia⟩⟩
  · intro r cells' P' s' S' hc hs ho
    refine ex8 ho ?_;clear ho;intro xs' n' e' u1 u2 a' b' t hy16;refine an6 hy16 ?_;clear hy16;intro hx15 hD' hT hB h1 h2
    symm at hx15;subst hx15
    exact ret _ _ _ _ _ _ (mk5 _ _ _ _ _ ⟨S',hD'⟩) hs hT hB h1 h2
end
section
open PySem.Calls
theorem enterK {w:World} {c:Cx} {m:Str→Option Value} {own P:Led} {s:Shared} {Q E:Value→Shared→Prop} {K:Frag} {name qual:Str} {params:Arguments} {body:List Stmt} {ns:List (Str × NameKind)} {mo:List (Str × Const)} {dV kV doc pm cdv ct oc:Value} {an od:Option Addr} {osl:Array (Option Value)} {f:Addr} {vs:List Value} {vals:List (Option Value)} {Out:Led→Led→Value→Prop} {clf:Addr→List (Str × Addr)}
    (hK:K = hd.heap_39 w.params) (S:St w c m own P s)
    (ho:K.lookup f = some ⟨oc,od,.func (fnOf name qual params body (fnSc ns mo) dV kV doc pm an cdv ct),osl⟩) (hcd:codeIn K cdv qual = true) (hroom:c.A.depth < recursionLimit)
    (hbind:BindsTo s (fnOf name qual params body (fnSc ns mo) dV kV doc pm an cdv ct) ⟨vs,[]⟩ ((params.args.map (·.arg)).zip vs))
    (hkind:(((params.args.map (·.arg)).zip vs).all fun y=>ns.lookup y.1 == some .local || ns.lookup y.1 == some .cell) = true) (hnd:((cellsFrom 0 ns []).map (·.1)).Nodup) (hgood:goodNs ns = true)
    (hcl:∀ L',cellsFrom (L' + 1) ns [] = clf L')
    (hbL:∀ L',bindL (envOfC qual (fnSc ns mo) L' f cdv).kindOf ((params.args.map (·.arg)).zip vs) (fun _=>none) = asg ns vals)
    (h:∀ c' s' cc,goodNs ns = true→c'.A.depth = c.A.depth + 1→c'.A.units = c.A.units + 3→CellsAre (bindC (envOfC qual (fnSc ns mo) c'.L f cdv).kindOf ((params.args.map (·.arg)).zip vs) fun _=>none) (clf c'.L) cc→St w c' (asg ns vals) own (cc ++ P) s' →
      wpAny (model rw_pq1024_01.row.prog w) c'.A (execs body (envX qual (fnSc ns mo) c'.L f cdv (clf c'.L))) (fun fl s''=>Ends w c' P (fun cs P' r=>cs.map (·.1) = own.map (·.1)∧Out cs P' r) (match fl with | .ret v=>v | _=>.none) s'') (fun _ _=>False) s')
    (ret:∀ r own' P' s',St w c m own' P' s'→own'.map (·.1) = own.map (·.1)→(∀ p∈P,p∈P')→Out own' P' r→Q r s') :
    codeAny (model rw_pq1024_01.row.prog w) c.A (.call (.ref f) ⟨vs,[]⟩) (fun r s'=>match r with | .ok (.ret v)=>Q v s' | .ok _=>False | .error e=>E e s') s :=
  enterC hK S ho hcd hroom hbind hkind hnd hgood hbL (fun c' s' cc h1 h2 h3 h4 h5=>by
    have:=h c' s' cc h1 h2 h3 (hcl c'.L ▸ h4) h5
    rw [hcl];exact this) ret
section
variable {w:World} {c:Cx} {m:Str→Option Value} {own P:Led} {s:Shared} {E:Value→Shared→Prop} {Q:Value→Shared→Prop} {cn:Str} {a:Addr} {ccd:Value} {cl:List (Str × Addr)}
theorem ev_cell {ns:List (Str × NameKind)} {mo:List (Str × Const)} {x:Str} {pos:Pos} {cc:Addr} {o:Obj} {v:Value} (S:St w c m own P s) (g:goodNs ns = true) (hc:cl.lookup x = some cc) (hm:(cc,o)∈P) (hd:o.data = .cell (some v)) (hx:(x,NameKind.cell)∈ns) (h:Q v s) :
    wpAny (model rw_pq1024_01.row.prog w) c.A (eval (.Name x pos) (envX cn (fnSc ns mo) c.L a ccd cl)) Q E s:=nameX_C S.N hc (List.mem_append_right _ hm) hd h rfl (goodNs_mem g hx).1 (goodNs_mem g hx).2
theorem cv_cell {C cc:Addr} {o:Obj} {scope:Scope} {env:Env} {x:Str} {pos:Pos} {v:Value} (S:St w c m own P s) (hc:cl.lookup x = some cc) (hm:(cc,o)∈P) (hd:o.data = .cell (some v)) (h:Q v s)
    (hk:(compEnvC scope cl C env).scope.kind = .function) (hx:(compEnvC scope cl C env).kindOf x = some .cell) (hb:(x == ("__debug__":Str)) = false:=by decide) :
    wpAny (model rw_pq1024_01.row.prog w) c.A (eval (.Name x pos) (compEnvC scope cl C env)) Q E s:=lcf_cell S.N hc (List.mem_append_right _ hm) hd h hk hx hb
theorem cv_loc {C:Addr} {m₂:Str→Option Value} {scope:Scope} {env:Env} {x:Str} {pos:Pos} {v:Value} {oC:Obj} (S:St w c m own P s) (hm:(C,oC)∈own) (hC:LCg.NsObj oC m₂) (hx:m₂ x = some v) (h:Q v s)
    (hk:(compEnvC scope cl C env).scope.kind = .function) (hl:(compEnvC scope cl C env).kindOf x = some .local) (hd:(x == ("__debug__":Str)) = false:=by decide) :
    wpAny (model rw_pq1024_01.row.prog w) c.A (eval (.Name x pos) (compEnvC scope cl C env)) Q E s:=LCgL.ld_own S.N (List.mem_append_left _ hm) hC hx h hk hl hd
theorem ccall2 {C:Addr} {scope:Scope} {env:Env} {x:Str} {px pos:Pos} {fv:Value} {e1 e2:Expr} (S:St w c m own P s) (e:nsIn (hd.heap_39 w.params) mainGlobals x = some (some fv)) (hkp:keepIn (hd.heap_39 w.params) fv = true)
    (h:wpAny (model rw_pq1024_01.row.prog w) c.A (eval e1 (compEnvC scope cl C env)) (fun v1 s1=>wpAny (model rw_pq1024_01.row.prog w) c.A (eval e2 (compEnvC scope cl C env)) (fun v2 s2=>(hd.heap_39 w.params).In s2.heap∧wpAny (model rw_pq1024_01.row.prog w) c.A (call fv [v1,v2]) Q E s2) E s1) E s) (hg:env.globals = mainGlobals)
    (hk:(compEnvC scope cl C env).scope.kind = .function) (hx:(compEnvC scope cl C env).kindOf x = some .globalImplicit)
    (he1:starEach [e1,e2] (compEnvC scope cl C env) = (false,eval e1 (compEnvC scope cl C env))::starEach [e2] (compEnvC scope cl C env)) (he2:starEach [e2] (compEnvC scope cl C env) = [(false,eval e2 (compEnvC scope cl C env))]) (hd:(x == ("__debug__":Str)) = false:=by decide) :
    wpAny (model rw_pq1024_01.row.prog w) c.A (eval (.Call (.Name x px) [e1,e2] [] pos) (compEnvC scope cl C env)) Q E s:=by
  refine Call_ (cv_glob S e ?_ hg hk hx hd)
  refine callWith_K S.X hkp ?_ he1 (by rw [he2];rfl)
  exact args_cons (wpAny_mono h (fun v s1 h1=>args_cons (wpAny_mono h1 (fun v2 s2 h2=>args_nil h2) fun _ _ e=>e) he2) fun _ _ e=>e) he1
theorem src_range1 {target:Expr} {n:Int} {t:Tok} {k:Nat} (S:St w c m own P s) (hk:n = (k:Nat)) (hb:k < 2 ^ 30)
    (h:∀ I s',St w c m own P s'→Itr w c target own P I s' k (fun i v _=>∃ t,v = .int ((i:Nat):Int) t)→Q (.ref I) s') :
    wpAny (model rw_pq1024_01.row.prog w) c.A (call (.type "range") [.int n t]) (fun xv s₁=>wpAny (model rw_pq1024_01.row.prog w) c.A (pyIter xv) Q E s₁) E s:=by
  subst hk
  refine call_range_1 ?_
  refine src_range (target:=target) (k:=k) ((S.push _).tok _) (IsRange.new _ _ _ _ _ _ _) (Int.le_refl 0) (by lia) (by lia) fun I s' S' hI=>h I s' S' ?_
  simpa only [Int.zero_add] using hI
theorem insS {D:Addr} {xs:List Value} {n:Nat} {x:Value} {k:Int} {u:Tok} (S:St w c m ((D,listOf xs.toArray n)::own) P s) (h0:0≤k) (hk:k < 1000000) (hz:xs.length≤1000000)
    (h:∀ s' j,St w c m ((D,listOf (xs.take j ++ x::xs.drop j).toArray (n + 1))::own) P s'→Q .none s'):wpAny (model rw_pq1024_01.row.prog w) c.A (call (.builtin "list.insert") [.ref D,.int k u,x]) Q E s :=
  kl_insert S.F S.N (by simp [Builtin.List.listFitsIndex];lia) rfl (S.upd rfl) (fits_le hz) fun h' F' N'=>h _ _ (S.setO rfl (tk:=s.toks) F' N')
end
noncomputable def nf (a:Int):Nat→List Int
  | 0=>[]
  | i + 1=>nf a i ++ [a + (i:Int) + 1]
theorem nf_in (a:Int):∀ i:Nat,In a (a + i) (nf a i)
  | 0=>In.nil
  | i + 1=>by
    have:=(nf_in a i).append (In.one (a:=a + i) (b:=a + (i + 1:Nat)) (i:=a + (i:Int) + 1) (by lia) (by lia)) (by lia) (by lia)
    exact this
theorem nf_len (a:Int):∀ i:Nat,(nf a i).length = i
  | 0=>rfl
  | i + 1=>by simp [nf,nf_len a i]
theorem All2.append {δ:Type} {R:Value→δ→Prop}:∀ {vs us:List Value} {ds es:List δ},All2 R vs ds→All2 R us es→All2 R (vs ++ us) (ds ++ es):=by
  intro vs us ds es h k
  induction h with
  | nil=>exact k
  | cons h _ ih=>exact .cons h ih
theorem All2.take {δ:Type} {R:Value→δ→Prop}:∀ {vs:List Value} {ds:List δ} (j:Nat),All2 R vs ds→All2 R (vs.take j) (ds.take j)
  | _,_,0,_=>.nil
  | _,_,_ + 1,.nil=>.nil
  | _,_,j + 1,.cons h r=>.cons h (r.take j)
theorem All2.drop {δ:Type} {R:Value→δ→Prop}:∀ {vs:List Value} {ds:List δ} (j:Nat),All2 R vs ds→All2 R (vs.drop j) (ds.drop j)
  | _,_,0,h=>h
  | _,_,_ + 1,.nil=>.nil
  | _,_,j + 1,.cons _ r=>r.drop j
theorem Scs_app {vis:List Int}:∀ {p q:List T},Scs vis (p ++ q)→Scs vis p∧Scs vis q
  | [],_,h=>⟨trivial,h⟩
  | _::_,_,h=>⟨⟨h.1,(Scs_app h.2).1⟩,(Scs_app h.2).2⟩
theorem Bls.ins {vis:List Int} {a b a' b':Int} {ts:List T} {u:T} (h:Bls vis a b a' b' ts) (j:Nat) (hs:Sc vis u) (hb:binds u = []) (hl:labs u = []):Bls vis a b a' b' (ts.take j ++ u::ts.drop j):=by
  have e:ts = ts.take j ++ ts.drop j:=(List.take_append_drop j ts).symm
  have h1:=h.sc
  have h2:=h.bi
  have h3:=h.la
  rw [e] at h1 h2 h3
  rw [bindss_append] at h2
  rw [labss_append] at h3
  refine ⟨Scs_append (Scs_app h1).1 ⟨hs,(Scs_app h1).2⟩,?_,?_,h.ha,h.hb⟩
  · rw [bindss_append];show In a a' (bindss _ ++ (binds u ++ bindss _));rw [hb];exact h2
  · rw [labss_append];show In b b' (labss _ ++ (labs u ++ labss _));rw [hl];exact h3
theorem sizes_ins (ts:List T) (u:T) (j:Nat):sizes (ts.take j ++ u::ts.drop j) = sizes ts + u.size:=by
  have e:sizes ts = sizes (ts.take j) + sizes (ts.drop j):=by rw [← sizes_append,List.take_append_drop]
  rw [sizes_append,e];simp only [sizes];lia
theorem deps_ins (ts:List T) (u:T) (j:Nat):deps (ts.take j ++ u::ts.drop j) = max (deps ts) u.dep:=by
  have e:deps ts = max (deps (ts.take j)) (deps (ts.drop j)):=by rw [← deps_append,List.take_append_drop]
  rw [deps_append,e]
  show max (deps (ts.take j)) (max u.dep (deps (ts.drop j))) = _
  rw [Nat.max_comm u.dep,← Nat.max_assoc]
theorem len_ins {α:Type} (ts:List α) (u:α) (j:Nat):(ts.take j ++ u::ts.drop j).length = ts.length + 1:=by
  have e:ts.length = (ts.take j).length + (ts.drop j).length:=by rw [← List.length_append,List.take_append_drop]
  rw [List.length_append,List.length_cons,e];lia
theorem consts_of:∀ {ts:List T},(∀ t∈ts,t = .cun∨t = .cint 3)→(∀ vis,Scs vis ts)∧bindss ts = []∧labss ts = []∧sizes ts = ts.length∧deps ts≤1
  | [],_=>⟨fun _=>trivial,rfl,rfl,rfl,by simp [deps]⟩
  | t::r,h=>by
    refine an5 (consts_of (ts:=r) fun t ht=>h t (.tail _ ht)) ?_;intro h1 h2 h3 h4 h5
    rcases h t (.head _) with rfl | rfl
    · exact ⟨fun vis=>⟨trivial,h1 vis⟩,by simpa [bindss,binds] using h2,by simpa [labss,labs] using h3,by simp only [sizes,T.size,h4,List.length_cons];lia,by simp only [deps,T.dep];lia⟩
    · exact ⟨fun vis=>⟨trivial,h1 vis⟩,by simpa [bindss,binds] using h2,by simpa [labss,labs] using h3,by simp only [sizes,T.size,h4,List.length_cons];lia,by simp only [deps,T.dep];lia⟩
/-- the let that is built -/
theorem Bl.letL {known numbers:List Int} {a b a0 a1 b1 b2:Int} {rows begins:List T} (hn:In a a0 numbers) (ha:a≤a0) (hb:b < b1) (hr:Bls (known ++ numbers) a0 b1 a1 b2 rows) (hc:∀ t∈begins,t = .cun∨t = .cint 3):Bl known a b a1 b2 (.call (.lam b1 numbers (.seq rows)) begins):=by
  refine an5 (consts_of hc) ?_;intro h1 h2 h3 _ _
  refine ⟨⟨?_,h1 _⟩,?_,?_,by have:=hr.ha;lia,by have:=hr.hb;lia⟩
  · show Sc (numbers ++ known) (.seq rows)
    exact Scs_mono (fun n hn=>by
      rcases List.mem_append.mp hn with hn | hn
      · exact List.mem_append_right _ hn
      · exact List.mem_append_left _ hn) hr.sc
  · show In a a1 ((numbers ++ bindss rows) ++ bindss begins)
    rw [h2,List.append_nil]
    exact hn.append hr.bi ha hr.ha
  · show In b b2 ((b1::labss rows) ++ labss begins)
    rw [h3,List.append_nil]
    exact (In.one (a:=b) (b:=b1) (i:=b1) hb (Int.le_refl _)).append hr.la (by lia) hr.hb
end
section
open PySem.Calls
theorem bindL_loc {kindOf:Str→Option NameKind} {n:Str} {v:Value} {r:List (Str × Value)} {m:Str→Option Value} (h:kindOf n = some .local):bindL kindOf ((n,v)::r) m = bindL kindOf r (fun y=>if y = n then some v else m y):=by
  rw [bindL,if_pos h]
theorem bindL_cell {kindOf:Str→Option NameKind} {n:Str} {v:Value} {r:List (Str × Value)} {m:Str→Option Value} (h:kindOf n = some .cell):bindL kindOf ((n,v)::r) m = bindL kindOf r m:=by
  rw [bindL,if_neg (by rw [h];decide)]
theorem bindL_nil {kindOf:Str→Option NameKind} {m:Str→Option Value}:bindL kindOf [] m = m:=rfl
theorem asg_cc {A B C D:Str} {kA kB kC kD:NameKind} {x y:Value} {r:List (Str × NameKind)} (h:goodNs ((A,kA)::(B,kB)::(C,kC)::(D,kD)::r) = true) :
    (fun z=>if z = D then some y else if z = C then some x else none) = asg ((A,kA)::(B,kB)::(C,kC)::(D,kD)::r) [none,none,some x,some y]:=by
  have g1:=goodNs_ne h
  have g2:=goodNs_ne g1.2.2
  have g3:=goodNs_ne g2.2.2
  have n1:C≠A:=g1.1 _ (.tail _ (.head _))
  have n2:D≠A:=g1.1 _ (.tail _ (.tail _ (.head _)))
  have n3:C≠B:=g2.1 _ (.head _)
  have n4:D≠B:=g2.1 _ (.tail _ (.head _))
  have n5:D≠C:=g3.1 _ (.head _)
  funext z
  simp only [asg,asg_nil]
  by_cases h1:z = D
  · subst h1;simp [n2,n4,n5]
  · by_cases h2:z = C
    · subst h2;simp [n1,n3,h1]
    · simp [h1,h2]
section
variable {w:World} {c:Cx} {m:Str→Option Value} {own P:Led} {s:Shared} {E:Value→Shared→Prop}
theorem compR {x:Str} {px:Pos} {elt:Expr} {ifs:List Expr} {scope:Scope} {cl:List (Str × Addr)} {env:Env} {Fin:Led→Led→List Value→Addr→Prop} {n:Int} {t:Tok} {k:Nat} (S:St w c m own P s) (hk:n = (k:Nat)) (hb:k≤1000000) (hkind:scope.kind = .function) (hx:scope.names.lookup x = some .local)
    (J:Nat→Led→Led→List Value→Prop) (h0:J 0 own P [])
    (step:∀ i own₁ P₁ P₁' tl C oC m₂ ys s₂ E',i < k→J i own₁ P₁ ys→(∃ t,m₂ x = some (.int ((i:Nat):Int) t))→LCg.NsObj oC m₂→(C,oC)∈tl→St w c m (own₁ ++ tl) P₁' s₂→(∀ p∈P₁,p∈P₁') →
      Stage w c.A (compEnvC scope cl C env) ifs elt (fun o s₄=>∃ own₂ P₂,St w c m (own₂ ++ tl) P₂ s₄∧(∀ p∈P₁',p∈P₂)∧J (i + 1) own₂ P₂ (ys ++ o.toList)) E' s₂)
    (fin:∀ own' P' ys D,J k own' P' ys→Fin own' P' ys D) :
    wpAny (model rw_pq1024_01.row.prog w) c.A (call (.type "range") [.int n t]) (fun xv s₁=>wpAny (model rw_pq1024_01.row.prog w) c.A (pyIter xv) (CompAt w c m (.Name x px) elt ifs scope cl env Fin) E s₁) E s:=by
  refine src_range1 (target:=.Name x px) (k:=k) S hk (by lia) fun I s2 S2 hI=>?_
  refine mk7 I _ _ k _ (fun i m₂=>∃ t,m₂ x = some (.int ((i:Nat):Int) t)) J ⟨rfl,S2,hI,hb,?_,h0,step,fin⟩
  intro i v C m₁ own₁ P₁ ys s₁ Q E hi hx1
  refine ex1 hx1 ?_;clear hx1;intro t hx2
  symm at hx2;subst hx2
  intro hJ hg hn h
  exact asgC_name hkind hx hn fun h' tk m₂ hn' hx hk=>h h' tk m₂ hn' ⟨t,hx⟩ hk
theorem compL {x:Str} {px:Pos} {elt:Expr} {ifs:List Expr} {scope:Scope} {cl:List (Str × Addr)} {env:Env} {Fin:Led→Led→List Value→Addr→Prop} {l:Addr} {vs:List Value} {e:Nat} (S:St w c m own P s) (hl:(l,listOf vs.toArray e)∈P) (hb:vs.length≤1000000) (hkind:scope.kind = .function) (hx:scope.names.lookup x = some .local)
    (J:Nat→Led→Led→List Value→Prop) (h0:J 0 own P [])
    (step:∀ i own₁ P₁ P₁' tl C oC m₂ ys s₂ E',i < vs.length→J i own₁ P₁ ys→m₂ x = vs[i]?→LCg.NsObj oC m₂→(C,oC)∈tl→St w c m (own₁ ++ tl) P₁' s₂→(∀ p∈P₁,p∈P₁') →
      Stage w c.A (compEnvC scope cl C env) ifs elt (fun o s₄=>∃ own₂ P₂,St w c m (own₂ ++ tl) P₂ s₄∧(∀ p∈P₁',p∈P₂)∧J (i + 1) own₂ P₂ (ys ++ o.toList)) E' s₂)
    (fin:∀ own' P' ys D,J vs.length own' P' ys→Fin own' P' ys D) :
    wpAny (model rw_pq1024_01.row.prog w) c.A (pyIter (.ref l)) (CompAt w c m (.Name x px) elt ifs scope cl env Fin) E s:=by
  refine src_list (target:=.Name x px) S hl fun I s2 S2 hI=>?_
  refine mk7 I _ _ vs.length _ (fun i m₂=>m₂ x = vs[i]?) J ⟨rfl,S2,hI,hb,?_,h0,step,fin⟩
  rintro i v C m₁ own₁ P₁ ys s₁ Q E hi hv hJ hg hn h
  exact asgC_name hkind hx hn fun h' tk m₂ hn' hx hk=>h h' tk m₂ hn' (hx.trans hv.symm) hk
theorem compT {x:Str} {px:Pos} {elt:Expr} {ifs:List Expr} {scope:Scope} {cl:List (Str × Addr)} {env:Env} {Fin:Led→Led→List Value→Addr→Prop} {l:Addr} {vs:List Value} {e:Nat} (S:St w c m own P s) (hl:(l,tupOf vs e)∈P) (hb:vs.length≤1000000) (hkind:scope.kind = .function) (hx:scope.names.lookup x = some .local)
    (J:Nat→Led→Led→List Value→Prop) (h0:J 0 own P [])
    (step:∀ i own₁ P₁ P₁' tl C oC m₂ ys s₂ E',i < vs.length→J i own₁ P₁ ys→m₂ x = vs[i]?→LCg.NsObj oC m₂→(C,oC)∈tl→St w c m (own₁ ++ tl) P₁' s₂→(∀ p∈P₁,p∈P₁') →
      Stage w c.A (compEnvC scope cl C env) ifs elt (fun o s₄=>∃ own₂ P₂,St w c m (own₂ ++ tl) P₂ s₄∧(∀ p∈P₁',p∈P₂)∧J (i + 1) own₂ P₂ (ys ++ o.toList)) E' s₂)
    (fin:∀ own' P' ys D,J vs.length own' P' ys→Fin own' P' ys D) :
    wpAny (model rw_pq1024_01.row.prog w) c.A (pyIter (.ref l)) (CompAt w c m (.Name x px) elt ifs scope cl env Fin) E s:=by
  refine src_tup (target:=.Name x px) S hl fun I s2 S2 hI=>?_
  refine mk7 I _ _ vs.length _ (fun i m₂=>m₂ x = vs[i]?) J ⟨rfl,S2,hI,hb,?_,h0,step,fin⟩
  rintro i v C m₁ own₁ P₁ ys s₁ Q E hi hv hJ hg hn h
  exact asgC_name hkind hx hn fun h' tk m₂ hn' hx hk=>h h' tk m₂ hn' (hx.trans hv.symm) hk
theorem comp_assignS {own P:Led} {target elt iter:Expr} {ifs:List Expr} {scope:Scope} {cl:List (Str × Addr)} {pos spos py:Pos} {Q:Flow→Shared→Prop} {cn:Str} {ns:List (Str × NameKind)} {mo:List (Str × Const)} {a:Addr} {ccd:Value} {ecl:List (Str × Addr)} {vals:List (Option Value)} {y:Str} (_S:St w c (asg ns vals) own P s) (g:goodNs ns = true)
    (hsw:swapsWith (.ListComp elt [⟨target,iter,ifs,0⟩] scope pos) (some (.Name y py)) spos.line (envX cn (fnSc ns mo) c.L a ccd ecl) = pure true)
    (hifs:ifs.length≤1) (hclos:closureFor scope (envX cn (fnSc ns mo) c.L a ccd ecl) = pure cl) (hcell:∀ y∈scope.names,y.2≠.cell) (hkind:scope.kind = .function) (hnames:∀ y∈scope.names,y.2 = .local→scope.names.lookup y.1 = some .local) (hs:∀ x,foldedSetIterable iter (envX cn (fnSc ns mo) c.L a ccd ecl) x = pure x)
    (h:wpAny (model rw_pq1024_01.row.prog w) c.A (eval iter (envX cn (fnSc ns mo) c.L a ccd ecl)) (fun xv s₁=>wpAny (model rw_pq1024_01.row.prog w) c.A (pyIter xv) (CompAt w c (asg ns vals) target elt ifs scope cl (envX cn (fnSc ns mo) c.L a ccd ecl) (fun own' P' ys D=>SetQ ns vals y (.ref D) (fun vals'=>∀ s',St w c (asg ns vals') own' ((D,LCg.lst ys)::P') s'→Q .next s'))) E s₁) E s) :
    wpAny (model rw_pq1024_01.row.prog w) c.A (exec (.Assign [.Name y py] (.ListComp elt [⟨target,iter,ifs,0⟩] scope pos) spos) (envX cn (fnSc ns mo) c.L a ccd ecl)) Q E s :=
  comp_assign g hsw hifs hclos hcell hkind hnames hs h
theorem cutF {α:Type} {t:Sem α} {Q:α→Shared→Prop} (S:St w c m own P s) (Mid:(Str→Option Value)→α→Shared→Prop) (h1:wpAny (model rw_pq1024_01.row.prog w) c.A t (Mid m) E s) (h2:∀ v s',Mid m v s'→Q v s'):wpAny (model rw_pq1024_01.row.prog w) c.A t Q E s :=
  wpAny_mono h1 h2 fun _ _ e=>e
theorem For_ {target iter:Expr} {pos:Pos} {cn:Str} {ns:List (Str × NameKind)} {mo:List (Str × Const)} {a₀:Addr} {ccd:Value} {cl:List (Str × Addr)} {body:List Stmt} {Q:Flow→Shared→Prop} (S:St w c m own P s)
    (h:wpAny (model rw_pq1024_01.row.prog w) c.A (eval iter (envX cn (fnSc ns mo) c.L a₀ ccd cl)) (fun xv s₁=>wpAny (model rw_pq1024_01.row.prog w) c.A (pyIter xv) (fun it s₂=>TurnsAt rw_pq1024_01.row.prog w c.A c.g (envX cn (fnSc ns mo) c.L a₀ ccd cl) target body Q (fun _ _=>False) it s₂) (fun _ _=>False) s₁) (fun _ _=>False) s) (hs:∀ x,foldedSetIterable iter (envX cn (fnSc ns mo) c.L a₀ ccd cl) x = pure x) :
    wpAny (model rw_pq1024_01.row.prog w) c.A (exec (.For target iter body [] pos) (envX cn (fnSc ns mo) c.L a₀ ccd cl)) Q (fun _ _=>False) s:=For_turns (m:=m) S.F h hs
theorem forR {x:Str} {px:Pos} {n:Int} {t:Tok} {k:Nat} {cn:Str} {ns:List (Str × NameKind)} {mo:List (Str × Const)} {a₀:Addr} {ccd:Value} {cl:List (Str × Addr)} {vals:List (Option Value)} {body:List Stmt} {Q:Flow→Shared→Prop} (S:St w c (asg ns vals) own P s) (g:goodNs ns = true) (hk:n = (k:Nat)) (hb:k≤1000000)
    (J:Nat→List (Option Value)→Led→Led→Prop) (h0:J 0 vals own P)
    (step:∀ i t vals₁ own₁ P₁ P₁' W s₁ Qb,ImpG (fun f s₃=>match f with
        | .ret v=>Q (.ret v) s₃
        | .brk=>Q .next s₃
        | _=>∃ vals₂ own₂ P₂,St w c (asg ns vals₂) (own₂ ++ W) P₂ s₃∧(∀ p∈P₁',p∈P₂)∧J (i + 1) vals₂ own₂ P₂) Qb→i < k→J i vals₁ own₁ P₁→St w c (asg ns vals₁) (own₁ ++ W) P₁' s₁→(∀ p∈P₁,p∈P₁') →
      SetQ ns vals₁ x (.int ((i:Nat):Int) t) (fun vals'=>∀ s',St w c (asg ns vals') (own₁ ++ W) P₁' s'→wpAny (model rw_pq1024_01.row.prog w) c.A (execs body (envX cn (fnSc ns mo) c.L a₀ ccd cl)) Qb E s'))
    (fin:∀ vals' own' P' s',St w c (asg ns vals') own' P' s'→J k vals' own' P'→Q .next s') :
    wpAny (model rw_pq1024_01.row.prog w) c.A (call (.type "range") [.int n t]) (fun xv s₁=>wpAny (model rw_pq1024_01.row.prog w) c.A (pyIter xv) (fun it s₂=>TurnsAt rw_pq1024_01.row.prog w c.A c.g (envX cn (fnSc ns mo) c.L a₀ ccd cl) (.Name x px) body Q E it s₂) E s₁) E s:=by
  refine src_range1 (target:=.Name x px) (k:=k) S hk (by lia) fun I s2 S2 hI=>?_
  refine for_St (P:=P) (own:=own) (m:=asg ns vals) rfl S2 hI (fun i m own₁ P₁=>∃ vals₁,m = asg ns vals₁∧J i vals₁ own₁ P₁) ⟨vals,rfl,h0⟩ ?_ ?_
  · intro i v m₁ own₁ P₁ P₁' W s₁ hi hp hx3
    refine ex1 hx3 ?_;clear hx3;intro vals₁ hy5;refine an2 hy5 ?_;clear hy5;intro hx4 hJ
    symm at hx4;subst hx4
    intro S hs
    refine ex1 hp ?_;clear hp;intro t hx6
    symm at hx6;subst hx6
    have hst:=step i t vals₁ own₁ P₁ P₁' W s₁ _ (fun _ _ h=>h) hi hJ S hs
    refine wpAny_assign_Name (st_loc S g ?_)
    refine ex1 hst ?_;clear hst;intro vals' hy7;refine an2 hy7 ?_;clear hy7;intro hl hst
    refine mk1 vals' ⟨hl,fun s' S'=>?_⟩
    have h:=hst s' S'
    refine wpAny_mono h (fun f s₃ h₃=>?_) fun _ _ e=>e
    cases f with
    | ret v=>exact h₃
    | brk=>exact h₃
    | next=>obtain ⟨v2,o2,P2,S3,hs3,hJ3⟩:=h₃;exact ⟨_,o2,P2,S3,hs3,v2,rfl,hJ3⟩
    | cont=>obtain ⟨v2,o2,P2,S3,hs3,hJ3⟩:=h₃;exact ⟨_,o2,P2,S3,hs3,v2,rfl,hJ3⟩
  · intro m' own' P' s' S hx8
    refine ex1 hx8 ?_;clear hx8;intro v' hy10;refine an2 hy10 ?_;clear hy10;intro hx9 hJ
    symm at hx9;subst hx9
    exact fin v' own' P' s' S hJ
theorem forL {x:Str} {px:Pos} {l:Addr} {vs:List Value} {e:Nat} {cn:Str} {ns:List (Str × NameKind)} {mo:List (Str × Const)} {a₀:Addr} {ccd:Value} {cl:List (Str × Addr)} {vals:List (Option Value)} {body:List Stmt} {Q:Flow→Shared→Prop} (S:St w c (asg ns vals) own P s) (g:goodNs ns = true) (hl:(l,listOf vs.toArray e)∈P)
    (J:Nat→List (Option Value)→Led→Led→Prop) (h0:J 0 vals own P)
    (step:∀ i v vals₁ own₁ P₁ P₁' W s₁ Qb,ImpG (fun f s₃=>match f with
        | .ret v=>Q (.ret v) s₃
        | .brk=>Q .next s₃
        | _=>∃ vals₂ own₂ P₂,St w c (asg ns vals₂) (own₂ ++ W) P₂ s₃∧(∀ p∈P₁',p∈P₂)∧J (i + 1) vals₂ own₂ P₂) Qb→i < vs.length→vs[i]? = some v→J i vals₁ own₁ P₁→St w c (asg ns vals₁) (own₁ ++ W) P₁' s₁→(∀ p∈P₁,p∈P₁') →
      SetQ ns vals₁ x v (fun vals'=>∀ s',St w c (asg ns vals') (own₁ ++ W) P₁' s'→wpAny (model rw_pq1024_01.row.prog w) c.A (execs body (envX cn (fnSc ns mo) c.L a₀ ccd cl)) Qb E s'))
    (fin:∀ vals' own' P' s',St w c (asg ns vals') own' P' s'→J vs.length vals' own' P'→Q .next s') :
    wpAny (model rw_pq1024_01.row.prog w) c.A (pyIter (.ref l)) (fun it s₂=>TurnsAt rw_pq1024_01.row.prog w c.A c.g (envX cn (fnSc ns mo) c.L a₀ ccd cl) (.Name x px) body Q E it s₂) E s:=by
  refine src_list (target:=.Name x px) S hl fun I s2 S2 hI=>?_
  refine for_St (P:=P) (own:=own) (m:=asg ns vals) rfl S2 hI (fun i m own₁ P₁=>∃ vals₁,m = asg ns vals₁∧J i vals₁ own₁ P₁) ⟨vals,rfl,h0⟩ ?_ ?_
  · intro i v m₁ own₁ P₁ P₁' W s₁ hi hp hx11
    refine ex1 hx11 ?_;clear hx11;intro vals₁ hy13;refine an2 hy13 ?_;clear hy13;intro hx12 hJ
    symm at hx12;subst hx12
    intro S hs
    have hst:=step i v vals₁ own₁ P₁ P₁' W s₁ _ (fun _ _ h=>h) hi hp hJ S hs
    refine wpAny_assign_Name (st_loc S g ?_)
    refine ex1 hst ?_;clear hst;intro vals' hy14;refine an2 hy14 ?_;clear hy14;intro hl hst
    refine mk1 vals' ⟨hl,fun s' S'=>?_⟩
    have h:=hst s' S'
    refine wpAny_mono h (fun f s₃ h₃=>?_) fun _ _ e=>e
    cases f with
    | ret v=>exact h₃
    | brk=>exact h₃
    | next=>obtain ⟨v2,o2,P2,S3,hs3,hJ3⟩:=h₃;exact ⟨_,o2,P2,S3,hs3,v2,rfl,hJ3⟩
    | cont=>obtain ⟨v2,o2,P2,S3,hs3,hJ3⟩:=h₃;exact ⟨_,o2,P2,S3,hs3,v2,rfl,hJ3⟩
  · intro m' own' P' s' S hx15
    refine ex1 hx15 ?_;clear hx15;intro v' hy17;refine an2 hy17 ?_;clear hy17;intro hx16 hJ
    symm at hx16;subst hx16
    exact fin v' own' P' s' S hJ
theorem forZ {x y:Str} {px py tp:Pos} {kk:Nat} {l1 l2:Addr} {xs ys:List Value} {e1 e2:Nat} {cn:Str} {ns:List (Str × NameKind)} {mo:List (Str × Const)} {a₀:Addr} {ccd:Value} {cl:List (Str × Addr)} {vals:List (Option Value)} {body:List Stmt} {Q:Flow→Shared→Prop} (S:St w c (asg ns vals) own P s) (g:goodNs ns = true) (hl1:(l1,listOf xs.toArray e1)∈P) (hl2:(l2,listOf ys.toArray e2)∈P)
    (J:Nat→List (Option Value)→Led→Led→Prop) (h0:J 0 vals own P)
    (step:∀ i u v vals₁ own₁ P₁ P₁' W s₁ Qb,ImpG (fun f s₃=>match f with
        | .ret v=>Q (.ret v) s₃
        | .brk=>Q .next s₃
        | _=>∃ vals₂ own₂ P₂,St w c (asg ns vals₂) (own₂ ++ W) P₂ s₃∧(∀ p∈P₁',p∈P₂)∧J (i + 1) vals₂ own₂ P₂) Qb→i < (min xs.length ys.length)→xs[i]? = some u→ys[i]? = some v→J i vals₁ own₁ P₁→St w c (asg ns vals₁) (own₁ ++ W) P₁' s₁→(∀ p∈P₁,p∈P₁') →
      SetQ ns vals₁ x u (fun vals₀=>SetQ ns vals₀ y v (fun vals'=>∀ s',St w c (asg ns vals') (own₁ ++ W) P₁' s'→wpAny (model rw_pq1024_01.row.prog w) c.A (execs body (envX cn (fnSc ns mo) c.L a₀ ccd cl)) Qb E s')))
    (fin:∀ vals' own' P' s',St w c (asg ns vals') own' P' s'→J (min xs.length ys.length) vals' own' P'→Q .next s') :
    wpAny (model rw_pq1024_01.row.prog w) c.A (call (.type "zip") [.ref l1,.ref l2]) (fun xv s₁=>wpAny (model rw_pq1024_01.row.prog w) c.A (pyIter xv) (fun it s₂=>TurnsAt rw_pq1024_01.row.prog w c.A c.g (envX cn (fnSc ns mo) c.L a₀ ccd cl) (.Tuple [.Name x px,.Name y py] kk tp) body Q E it s₂) E s₁) E s:=by
  refine src_zipL (elts:=[.Name x px,.Name y py]) (kk:=kk) (pos:=tp) S hl1 hl2 fun I s2 S2 hI=>?_
  refine for_St (P:=P) (own:=own) (m:=asg ns vals) rfl S2 hI (fun i m own₁ P₁=>∃ vals₁,m = asg ns vals₁∧J i vals₁ own₁ P₁) ⟨vals,rfl,h0⟩ ?_ ?_
  · intro i v m₁ own₁ P₁ P₁' W s₁ hi hp hx25
    refine ex1 hx25 ?_;clear hx25;intro vals₁ hy27;refine an2 hy27 ?_;clear hy27;intro hx26 hJ
    symm at hx26;subst hx26
    intro S hs
    refine ex3 hp ?_;clear hp;intro T u v hy29;refine an4 hy29 ?_;clear hy29;intro hx28 hu hv hT
    symm at hx28;subst hx28
    have hst:=step i u v vals₁ own₁ P₁ P₁' W s₁ _ (fun _ _ h=>h) hi hu hv hJ S hs
    refine asgF_pair S g hT ?_
    refine ex1 hst ?_;clear hst;intro v1 hy31;refine an2 hy31 ?_;clear hy31;intro l1 hz30;refine ex1 hz30 ?_;clear hz30;intro v2 hy32;refine an2 hy32 ?_;clear hy32;intro l2 hst
    refine mk1 v1 ⟨l1,mk1 v2 ⟨l2,fun s' S'=>?_⟩⟩
    have h:=hst s' S'
    refine wpAny_mono h (fun f s₃ h₃=>?_) fun _ _ e=>e
    cases f with
    | ret v=>exact h₃
    | brk=>exact h₃
    | next=>obtain ⟨v2,o2,P2,S3,hs3,hJ3⟩:=h₃;exact ⟨_,o2,P2,S3,hs3,v2,rfl,hJ3⟩
    | cont=>obtain ⟨v2,o2,P2,S3,hs3,hJ3⟩:=h₃;exact ⟨_,o2,P2,S3,hs3,v2,rfl,hJ3⟩
  · intro m' own' P' s' S hx33
    refine ex1 hx33 ?_;clear hx33;intro v' hy35;refine an2 hy35 ?_;clear hy35;intro hx34 hJ
    symm at hx34;subst hx34
    exact fin v' own' P' s' S hJ
end
theorem bt_range:bootBuiltins (Str.ofString "range") = some (.type "range"):=by boot_by_name
theorem bt_ne_range:(Str.ofString "range")≠"__name__":=by decide
end
section
open PySem.Calls
theorem late_x {w:World} (d k sz dp:Nat) (hk6:6≤k) (hdp4:4≤dp) (V:Maker w 550 d k sz dp 60):Maker w 555 d (k + 1) (22 + 5 * sz) (dp + 4) 56:=by
  intro c m own P s Q E D X a b kn vs ek known u B hkn hi0 hv hv2 hdp hu ret
  refine ex5 B ?_;clear B;intro xs n e t1 t2 hy1;refine an2 hy1 ?_;clear hy1;intro S hD
  have Xf:=S.X
  refine wpAny_call ?_
  refine enterK (K:=hd.heap_39 _) (vals:=[none,none,some (.ref kn),some (.int (d:Int) u)]) (clf:=fun L'=>[(Str.ofString "_law_state",L' + 1 + 1),(Str.ofString "_law_deck",L' + 1)]) (Out:=fun cs P' r=>∃ xs' n' e' u1 u2 a' b' t,cs = (D,listOf (xs':List Value).toArray n')::(X,listOf [.int a' u1,.int b' u2].toArray e')::own∧Dk xs'∧TR w P' r t∧Bl known a b a' b' t∧t.size≤22 + 5 * sz∧t.dep≤dp + 4) rfl S (by k_is) (by k_is) (by lia) (by exact BindsTo.of_eq rfl) (by kernel_rfl) (by decide +kernel) (by kernel_rfl) (by exact fun _=>rfl) ?a4 ?a5 ?a6
  case a4 =>
    intro L'
    dsimp only [List.map,List.zip,List.zipWith]
    rw [bindL_cell (by kernel_rfl),bindL_cell (by kernel_rfl),bindL_loc (by kernel_rfl),bindL_loc (by kernel_rfl),bindL_nil]
    exact asg_cc (by kernel_rfl)
  case a6 =>
    intro r own' P' s' S' hc hs ho
    refine ex8 ho ?_;clear ho;intro xs' n' e' u1 u2 a' b' t hy3;refine an6 hy3 ?_;clear hy3;intro hx2 hD' hT hB h1 h2
    symm at hx2;subst hx2
    exact ret _ _ _ _ _ _ (mk5 _ _ _ _ _ ⟨S',hD'⟩) hs hT hB h1 h2
  intro c' s' cc gN hd' hu' hcc S'
  refine ex2 (hcc.two) ?_;intro o1 o2 hy5;refine an3 hy5 ?_;clear hy5;intro hx4 hc1 hc2
  symm at hx4;subst hx4
  have hX:o1.data = .cell (some (.ref X)):=hc1.trans (by exact rfl)
  have hDk:o2.data = .cell (some (.ref D)):=hc2.trans (by exact rfl)
  clear hc1 hc2 hcc ret S
  dsimp only [List.cons_append,List.nil_append] at S'
  have d1:c'.A.depth + 1 < recursionLimit:=by first | exact bl ‹_› ‹_› (by exact rfl) | lia
  have d2:c'.A.depth + 2 < recursionLimit:=by first | exact bl ‹_› ‹_› (by exact rfl) | lia
  have d3:c'.A.depth + 3 < recursionLimit:=by first | exact bl ‹_› ‹_› (by exact rfl) | lia
  have u8:c'.A.units + 80 < cLine:=by first | exact bl ‹_› ‹_› (by exact rfl) | lia
  have u9:c'.A.units + 90 < cLine:=by first | exact bl ‹_› ‹_› (by exact rfl) | lia
  have u3:c'.A.units + 8 * 3 < cLine:=by first | exact bl ‹_› ‹_› (by exact rfl) | lia
  have e1:c'.A.depth + k < recursionLimit:=by lia
  have e2:c'.A.units + 8 * k + 200 < cLine:=by lia
  clear hdp hu hd' hu'
  try refine (by assumption:Nxt _ _ _ _ _ _ _) _ ?_
  (refine eN ?_;intro _ _ _)
  refine comp_assignS ‹_› gN (by k_dflt rfl) (by decide) (by k_dflt rfl) (by decide) (by k_dflt rfl) (by decide) (by k_dflt exact fun _=>rfl) ?_
  refine callT (x:=Str.ofString "range") ‹_› ‹_› (gn_range _) bt_range bt_ne_range mm10 ?_ (by k_dflt rfl)
  with_reducible (refine wpAny_BinOp ?_;refine ev_int ‹_› ?_;intro _ _ _;refine call2 (x:=Str.ofString "_law_draw") ‹_› ‹_› (g_law_draw _) (kp_law_draw _) mm11 ?_ (by k_dflt rfl) (by k_dflt rfl);refine ev_cell ‹_› ‹_› (by k_dflt rfl) (by k_mem) ‹_› mm0 ?_;refine ev_int ‹_› ?_;intro _ _ _;refine And.intro (St.kin ‹_›) ?_)
  refine drawB ‹_› hD (by decide) (by decide) d2 u8 ?_
  intro many tkm s1 B hm0 hm4
  refine ex5 B ?_;clear B;intro xs n e t1 t2 hy6;refine an2 hy6 ?_;clear hy6;intro S hD
  with_reducible (refine addS ‹_› ?_;intro _ _ _)
  obtain ⟨kk,rfl⟩:∃ kk:Nat,many = (kk:Int):=⟨many.toNat,by lia⟩
  refine compR (k:=kk + 1) ‹_› (by lia) (by lia) rfl (by kernel_rfl) (fun i own₁ P₁ ys=>(∃ e' t1' t2',own₁ = (D,listOf xs.toArray n)::(X,listOf [.int (a + (i:Int)) t1',.int b t2'].toArray e')::own)∧(∀ p∈((c'.L + 1 + 1,o1)::(c'.L + 1,o2)::P),p∈P₁)∧IntsAre ys (nf a i)) ⟨(mk3 _ _ _ (by rw [show ((0:Nat):Int) = 0 from rfl,Int.add_zero])),fun _ h=>h,.nil⟩ ?_ ?_
  · intro i own₁ P₁ P₁' tl C oC m₂ ys s₂ E' hi hx7 hG hC htl S hs
    refine an3 hx7 ?_;clear hx7;intro hx8 hs0 hys
    refine ex3 hx8 ?_;clear hx8;intro e' t1' t2' hx9
    symm at hx9;subst hx9
    show wpAny _ _ _ _ _ _
    refine ccall2 (x:=Str.ofString "_law_new") S (g_law_new _) (kp_law_new _) ?_ rfl rfl (by kernel_rfl) (by k_dflt rfl) (by k_dflt rfl)
    refine cv_cell S (by k_dflt rfl) (hs _ (hs0 _ (.head _))) hX ?_ rfl (by kernel_rfl)
    refine ev_int S ?_
    intro s3 tk3 S3
    refine ⟨S3.kin,?_⟩
    refine new0 (own:=_::(own ++ tl)) S3.swap d1 u8 ?_
    intro tk tk' n' s' S'
    refine mk2 (_::_::own) _ ⟨S'.swap,fun _ h=>h,(mk3 _ _ _ (by rw [show ((i + 1:Nat):Int) = (i:Int) + 1 from rfl,Int.add_assoc])),fun p hp=>hs _ (hs0 _ hp),?_⟩
    exact hys.append (.cons _ _ .nil)
  intro own' P1 ns Ln hx10
  refine an3 hx10 ?_;clear hx10;intro hx11 hP1 hns
  refine ex3 hx11 ?_;clear hx11;intro e' t1' t2' hx12
  symm at hx12;subst hx12
  refine SetQ.i (SetL.there (SetL.there (SetL.there (SetL.there (SetL.thereN (SetL.hereN)))))) ?_
  intro s3 S3
  try dsimp only
  have hc2:=hP1 _ (.head _)
  have hc1:=hP1 _ (.tail _ (.head _))
  have hkn1:=hP1 _ (.tail _ (.tail _ hkn))
  have hnl:ns.length = kk + 1:=by rw [hns.length,nf_len]
  try refine (by assumption:Nxt _ _ _ _ _ _ _) _ ?_
  (refine eN ?_;intro _ _ _)
  refine comp_assignS ‹_› gN (by k_dflt rfl) (by decide) (by k_dflt rfl) (by decide) (by k_dflt rfl) (by decide) (by k_dflt exact fun _=>rfl) ?_
  with_reducible (refine ev_lv ‹_› ‹_› LocV.a5 ?_)
  refine compL (vs:=ns) (e:=ns.length) ‹_› (.head _) (by lia) rfl (by kernel_rfl) (fun i own₁ P₁ ys=>(∃ xs n,own₁ = (D,listOf (xs:List Value).toArray n)::(X,listOf [.int (a + ((kk + 1:Nat):Int)) t1',.int b t2'].toArray e')::own∧Dk xs)∧(∀ p∈((Ln,LCg.lst ns)::P1),p∈P₁)∧∃ ts,All2 (TR w P₁) ys ts∧ts.length = i∧∀ t∈ts,t = T.cun∨t = T.cint 3) ⟨⟨_,_,rfl,hD⟩,fun _ h=>h,[],.nil,rfl,fun _ h=>nomatch h⟩ ?_ ?_
  · intro i own₁ P₁ P₁' tl C oC m₂ ys s₂ E' hi hx13 hG hC htl S hs
    refine an3 hx13 ?_;clear hx13;intro hx14 hs0 hz15;refine ex1 hz15 ?_;clear hz15;intro ts hy16;refine an3 hy16 ?_;clear hy16;intro hys hti hts
    refine ex2 hx14 ?_;clear hx14;intro xs n hy18;refine an2 hy18 ?_;clear hy18;intro hx17 hD
    symm at hx17;subst hx17
    show wpAny _ _ _ _ _ _
    refine IfExp_ ?_
    refine wpAny_isTrue_Compare1 ?_ (by k_dflt rfl)
    refine ccall2 (x:=Str.ofString "_law_draw") S (g_law_draw _) (kp_law_draw _) ?_ rfl rfl (by kernel_rfl) (by k_dflt rfl) (by k_dflt rfl)
    refine cv_cell S (by k_dflt rfl) (hs _ (hs0 _ (.tail _ hc1))) hDk ?_ rfl (by kernel_rfl)
    refine ev_int S ?_
    intro s3 tk3 S3
    refine ⟨S3.kin,?_⟩
    refine draw (own:=_::(own ++ tl)) S3 hD (by decide) (by decide) d2 u8 ?_
    intro r tkr xs' n' s4 S4 hD' hr0 hr5
    with_reducible (refine ev_int ‹_› ?_;intro _ _ _;refine PySem.P.gt_int ?_;refine wpAny_truthy_bool ?_)
    refine ifB (fun hb=>?_) (fun hb=>?_)
    · refine ccall1 (x:=Str.ofString "Const") ‹_› (g_Const _) (kp_Const _) ?_ rfl rfl (by kernel_rfl) (by decide) (by k_dflt rfl)
      refine cv_glob ‹_› (g_UNASSIGNED _) ?_ rfl rfl (by kernel_rfl) (by decide)
      refine ⟨St.kin ‹_›,?_⟩
      refine useP mk_cun ‹_› d3 u3 ?_
      intro v P2 s5 S5 hs5 hT
      refine mk2 (_::_::own) P2 ⟨S5,hs5,⟨_,_,rfl,hD'⟩,fun p hp=>hs5 _ (hs _ (hs0 _ hp)),mk1 (ts ++ [.cun]) ⟨(show All2 (TR w P2) (ys ++ [v]) _ from (hys.mono fun v t h=>TR.mono _ _ _ _ (fun p hp=>hs5 _ (hs _ hp)) h).snoc hT),by rw [List.length_append,hti];rfl,fun t ht=>?_⟩⟩
      rcases List.mem_append.mp ht with ht | ht
      · exact hts t ht
      · exact .inl (List.mem_singleton.mp ht)
    · refine ccall1 (x:=Str.ofString "Const") ‹_› (g_Const _) (kp_Const _) ?_ rfl rfl (by kernel_rfl) (by decide) (by k_dflt rfl)
      with_reducible (refine ev_int ‹_› ?_;intro _ _ _;refine And.intro (St.kin ‹_›) ?_)
      refine useP (mk_cint (i:=3)) ‹_› d3 u3 ?_
      intro v P2 s5 S5 hs5 hT
      refine mk2 (_::_::own) P2 ⟨S5,hs5,⟨_,_,rfl,hD'⟩,fun p hp=>hs5 _ (hs _ (hs0 _ hp)),mk1 (ts ++ [.cint 3]) ⟨(show All2 (TR w P2) (ys ++ [v]) _ from (hys.mono fun v t h=>TR.mono _ _ _ _ (fun p hp=>hs5 _ (hs _ hp)) h).snoc hT),by rw [List.length_append,hti];rfl,fun t ht=>?_⟩⟩
      rcases List.mem_append.mp ht with ht | ht
      · exact hts t ht
      · exact .inr (List.mem_singleton.mp ht)
  intro own' P2 bs Lb hx19
  refine an3 hx19 ?_;clear hx19;intro hx20 hP2 hz21;refine ex1 hz21 ?_;clear hz21;intro bt hy22;refine an3 hy22 ?_;clear hy22;intro hbt hbl hbc
  refine ex2 hx20 ?_;clear hx20;intro xs2 n2 hy24;refine an2 hy24 ?_;clear hy24;intro hx23 hD2
  symm at hx23;subst hx23
  refine SetQ.i (SetL.there (SetL.there (SetL.there (SetL.there (SetL.there (SetL.there (SetL.thereN (SetL.hereN)))))))) ?_
  intro s4 S4
  clear S S3 S'
  try dsimp only
  have hc2:=hP2 _ (.tail _ hc2)
  have hc1:=hP2 _ (.tail _ hc1)
  have hkn2:=hP2 _ (.tail _ hkn1)
  have hnum:=hP2 _ (.head _)
  try refine (by assumption:Nxt _ _ _ _ _ _ _) _ ?_
  (refine eN ?_;intro _ _ _)
  refine Assign_Tuple_swapped ?_ (by k_dflt rfl) (by k_dflt rfl)
  refine Tuple_ ?_
  refine sp1 ?_ (by k_dflt rfl)
  refine List_ ?_
  refine sp0 ?_
  refine nl_own S4 ?_ sl0
  intro Lr s5 S5
  have S6:=S5.perm (own':=_::_::_::own) ((List.Perm.swap _ _ _).trans (.cons _ (List.Perm.swap _ _ _)))
  with_reducible (refine sp1 ?_ (by k_dflt rfl);refine call2 (x:=Str.ofString "_law_new") ‹_› ‹_› (g_law_new _) (kp_law_new _) mm12 ?_ (by k_dflt rfl) (by k_dflt rfl);refine ev_cell ‹_› ‹_› (by k_dflt rfl) (by k_mem) ‹_› mm1 ?_;refine ev_int ‹_› ?_;intro _ _ _;refine And.intro (St.kin ‹_›) ?_)
  refine new1B ‹_› hD2 d1 u8 ?_
  intro tkl s7 hx25
  refine ex5 hx25 ?_;clear hx25;intro xs3 n3 e3 t5 t6 hy26;refine an2 hy26 ?_;clear hy26;intro S7 hD3
  clear S5 S6
  with_reducible (refine sp0 ?_;refine nt ‹_› ?_ sl2;intro _ _ _)
  refine unp2 ‹_› (by k_mem) ?_
  intro s8 S8
  refine assignInOrder_cons (wpAny_bindName ?_)
  with_reducible (refine st_loc ‹_› ‹_› ?_;refine SetQ.i (SetL.there (SetL.there (SetL.there (SetL.there (SetL.there (SetL.there (SetL.there (SetL.there (SetL.thereN (SetL.hereN)))))))))) ?_;intro _ _)
  refine assignInOrder_cons (wpAny_bindName ?_)
  with_reducible (refine st_loc ‹_› ‹_› ?_;refine SetQ.i (SetL.a8) ?_;intro _ _)
  refine assignInOrder_nil ?_
  try dsimp only
  try refine (by assumption:Nxt _ _ _ _ _ _ _) _ ?_
  (refine eN ?_;intro _ _ _)
  refine For_ ‹_› ?_ (by k_dflt exact fun _=>rfl)
  refine callT (x:=Str.ofString "range") ‹_› ‹_› (gn_range _) bt_range bt_ne_range mm10 ?_ (by k_dflt rfl)
  with_reducible (refine wpAny_BinOp ?_;refine callB1 (x:=Str.ofString "len") ‹_› ‹_› (gn_len _) bt_len bt_ne_len mm13 ?_ (by k_dflt rfl);refine ev_lv ‹_› ‹_› LocV.a5 ?_)
  refine len_P (xs:=ns) ‹_› (by k_mem) (by lia) ?_
  intro s9 tk9 S9
  with_reducible (refine call2 (x:=Str.ofString "_law_draw") ‹_› ‹_› (g_law_draw _) (kp_law_draw _) mm11 ?_ (by k_dflt rfl) (by k_dflt rfl);refine ev_cell ‹_› ‹_› (by k_dflt rfl) (by k_mem) ‹_› mm0 ?_;refine ev_int ‹_› ?_;intro _ _ _;refine And.intro (St.kin ‹_›) ?_)
  refine drawB ‹_› hD3 (by decide) (by decide) d2 u8 ?_
  intro r tkr s10 hx27 hr0 hr2
  refine ex5 hx27 ?_;clear hx27;intro xs4 n4 e4 t7 t8 hy28;refine an2 hy28 ?_;clear hy28;intro S10 hD4
  with_reducible (refine addS ‹_› ?_;intro _ _ _)
  obtain ⟨rr,rfl⟩:∃ rr:Nat,r = (rr:Int):=⟨r.toNat,by lia⟩
  refine forR (k:=kk + 1 + rr) ‹_› gN (by lia) (by lia) (fun i vals₁ own₁ P₁=>∃ xs n e u1 u2 vo rs ts a' b' v1 v2,vals₁ = [none,none,some (.ref kn),some (.int (d:Int) u),v1,some (.ref Ln),v2,some (.ref Lb),some (.ref Lr),some (.int (b + 1) tkl)] ∧
    own₁ = (D,listOf (xs:List Value).toArray n)::(X,listOf [Value.int a' u1,Value.int b' u2].toArray e)::(Lr,listOf (rs:List Value).toArray vo)::own∧Dk xs∧(∀ p∈(Lb,LCg.lst bs)::P2,p∈P₁)∧All2 (TR w P₁) rs ts∧Bls (known ++ nf a (kk + 1)) (a + ((kk + 1:Nat):Int)) (b + 1) a' b' ts∧ts.length = i∧sizes ts≤i * (sz + 1)∧deps ts≤dp + 1)
    (mk12 _ _ _ _ _ _ [] [] _ _ _ _ ⟨rfl,rfl,hD4,by k_places,.nil,Bls.nil,rfl,by simp [sizes],by simp [deps]⟩) ?_ ?_
  · intro i tki vals₁ own₁ P₁ P₁' W s₁ Qb hqb hi hx29 S hs
    refine ex12 hx29 ?_;clear hx29;intro xs n e u1 u2 vo rs ts a' b' v1 v2 hy32;refine an9 hy32 ?_;clear hy32;intro hx30 hx31 hD hP3 hrs hB hti hsz hdep
    symm at hx30;subst hx30
    symm at hx31;subst hx31
    clear S4 S7 S8 S9 S10
    refine SetQ.i (SetL.a4) ?_
    intro s2 S2
    have hc1:=hs _ (hP3 _ (.tail _ hc1))
    have hc2:=hs _ (hP3 _ (.tail _ hc2))
    have hkn3:=hs _ (hP3 _ (.tail _ hkn2))
    have hnum:=hs _ (hP3 _ (.tail _ hnum))
    clear S
    try refine (by assumption:Nxt _ _ _ _ _ _ _) _ ?_
    (refine eN ?_;intro _ _ _)
    refine wpAny_Assign_Name ?_ (by k_dflt rfl)
    refine cutE ‹_› (fun m' v s'=>BS w c' m' D X ((Lr,listOf rs.toArray vo)::(own ++ W)) P₁' a' b' s'∧∃ num tk,v = .int num tk∧num∈nf a (kk + 1)) ?_ ?_
    · have fin1:∀ m' (s':Shared) (xs:List Value) n e u1 u2,St w c' m' ((D,listOf xs.toArray n)::(X,listOf [Value.int a' u1,Value.int b' u2].toArray e)::(Lr,listOf rs.toArray vo)::(own ++ W)) P₁' s'→Dk xs →
          wpAny (model rw_pq1024_01.row.prog w) c'.A (call (.ref 531) [.ref D,.ref Ln]) (fun v s'=>BS w c' m' D X ((Lr,listOf rs.toArray vo)::(own ++ W)) P₁' a' b' s'∧∃ num tk,v = .int num tk∧num∈nf a (kk + 1)) (fun _ _=>False) s':=by
        intro m' s' xs n e u1 u2 S hD
        refine oneB S hD hnum hns (by lia) (by lia) d3 u9 ?_
        intro r tk s1 B hr
        exact ⟨B,mk2 r tk ⟨rfl,hr⟩⟩
      with_reducible (refine IfExp_ ?_;refine isTrue_and ?_;refine wpAny_isTrue_Compare1 ?_ (by k_dflt rfl);refine ev_lv ‹_› ‹_› LocV.a4 ?_;refine callB1 (x:=Str.ofString "len") ‹_› ‹_› (gn_len _) bt_len bt_ne_len mm13 ?_ (by k_dflt rfl);refine ev_lv ‹_› ‹_› LocV.a5 ?_)
      refine len_P (xs:=ns) ‹_› hnum (by lia) ?_
      intro s9 tk9 S9
      with_reducible (refine PySem.P.lt_int ?_;refine wpAny_truthy_bool ?_)
      refine ifB (fun hb=>?_) (fun hb=>?_)
      · with_reducible (refine isTrue_and ?_;refine wpAny_isTrue_Compare1 ?_ (by k_dflt rfl);refine call2 (x:=Str.ofString "_law_draw") ‹_› ‹_› (g_law_draw _) (kp_law_draw _) mm11 ?_ (by k_dflt rfl) (by k_dflt rfl);refine ev_cell ‹_› ‹_› (by k_dflt rfl) (by k_mem) ‹_› mm0 ?_;refine ev_int ‹_› ?_;intro _ _ _;refine And.intro (St.kin ‹_›) ?_)
        refine drawB ‹_› hD (by decide) (by decide) d2 u8 ?_
        intro r6 tkr6 s11 hx33 h60 h66
        refine ex5 hx33 ?_;clear hx33;intro xs5 n5 e5 t9 t10 hy34;refine an2 hy34 ?_;clear hy34;intro S11 hD5
        with_reducible (refine ev_int ‹_› ?_;intro _ _ _;refine PySem.P.gt_int ?_;refine wpAny_truthy_bool ?_)
        refine ifB (fun hb6=>?_) (fun hb6=>?_)
        · with_reducible (refine isTrue_and_nil ?_;refine ite_tt ?_;refine Subscript_ ?_;refine ev_lv ‹_› ‹_› LocV.a5 ?_;refine ev_lv ‹_› ‹_› LocV.a4 ?_)
          have hin:i < ns.length:=by have:=of_decide_eq_true hb;lia
          obtain ⟨v,hv⟩:∃ v,ns[i]? = some v:=⟨ns[i],by simp [hin]⟩
          refine ex2 (hns.at _ _ hv) ?_;intro num tkn hy36;refine an2 hy36 ?_;clear hy36;intro hx35 hnum'
          symm at hx35;subst hx35
          refine li_item (St.isListP ‹_› hnum) (by lia) (by lia) (by simpa using hv) ?_ (by k_dflt rfl)
          exact ⟨(mk5 _ _ _ _ _ ⟨by assumption,hD5⟩),mk2 num tkn ⟨rfl,List.mem_of_getElem? hnum'⟩⟩
        · with_reducible (refine ite_ff ?_;refine call2 (x:=Str.ofString "_law_one") ‹_› ‹_› (g_law_one _) (kp_law_one _) mm14 ?_ (by k_dflt rfl) (by k_dflt rfl);refine ev_cell ‹_› ‹_› (by k_dflt rfl) (by k_mem) ‹_› mm0 ?_;refine ev_lv ‹_› ‹_› LocV.a5 ?_;refine And.intro (St.kin ‹_›) ?_)
          exact fin1 _ _ _ _ _ _ _ ‹_› hD5
      · with_reducible (refine ite_ff ?_;refine call2 (x:=Str.ofString "_law_one") ‹_› ‹_› (g_law_one _) (kp_law_one _) mm14 ?_ (by k_dflt rfl) (by k_dflt rfl);refine ev_cell ‹_› ‹_› (by k_dflt rfl) (by k_mem) ‹_› mm0 ?_;refine ev_lv ‹_› ‹_› LocV.a5 ?_;refine And.intro (St.kin ‹_›) ?_)
        exact fin1 _ _ _ _ _ _ _ ‹_› hD
    intro v s9 hx37
    refine an2 hx37 ?_;clear hx37;intro hx38 hz40;refine ex2 hz40 ?_;clear hz40;intro num tkn hy41;refine an2 hy41 ?_;clear hy41;intro hx39 hnm
    refine ex5 hx38 ?_;clear hx38;intro xs5 n5 e5 t9 t10 hy42;refine an2 hy42 ?_;clear hy42;intro S11 hD5
    symm at hx39;subst hx39
    with_reducible (refine st_loc ‹_› ‹_› ?_;refine SetQ.i (SetL.a6) ?_;intro _ _;refine (by assumption:Nxt _ _ _ _ _ _ _) _ ?_;refine eI ‹_› ?_;intro _ _ _;refine wpAny_Expr_any ?_ (by k_dflt rfl) (by k_dflt rfl);refine MethodCall_ ?_ (by k_dflt rfl);refine ev_lv ‹_› ‹_› LocV.a8 ?_;refine lmeth ‹_› (by k_mem) PySem.F.slot_list_append PySem.F.type_list_append ?_;refine callWith_method1 ?_ (by k_dflt rfl) (by k_dflt rfl);refine sp1 ?_ (by k_dflt rfl);refine call2 (x:=Str.ofString "SetLocal") ‹_› ‹_› (g_SetLocal _) (kp_SetLocal _) mm15 ?_ (by k_dflt rfl) (by k_dflt rfl);refine ev_lv ‹_› ‹_› LocV.a6 ?_;refine call4 (x:=Str.ofString "_law_value_of") ‹_› ‹_› (g_law_value_of _) (kp_law_value_of _) mm16 ?_ (by k_dflt rfl) (by k_dflt rfl) (by k_dflt rfl) (by k_dflt rfl);refine ev_cell ‹_› ‹_› (by k_dflt rfl) (by k_mem) ‹_› mm0 ?_;refine ev_cell ‹_› ‹_› (by k_dflt rfl) (by k_mem) ‹_› mm1 ?_;refine wpAny_BinOp ?_;refine ev_lv ‹_› ‹_› LocV.a2 ?_;refine ev_lv ‹_› ‹_› LocV.a5 ?_)
    refine add_l (xs:=vs) (ys:=ns) ‹_› (St.isListP ‹_› hkn3) (St.isListP ‹_› hnum) (fits_le (by lia)) ?_
    intro Dn s12 S12
    with_reducible (refine ev_lv ‹_› ‹_› LocV.a3 ?_;refine And.intro (St.kin ‹_›) ?_)
    refine V _ _ _ _ _ _ _ D X a' b' Dn (vs ++ ns) 0 (known ++ nf a (kk + 1)) _ (mk5 _ _ _ _ _ ⟨by assumption,hD5⟩) (.head _) (hi0.append hns) (by simp;lia) (by simp;lia) e1 e2 ?_
    intro r P4 s13 a2 b2 t hx43 hs4 hT hBt hts htd
    refine ex5 hx43 ?_;clear hx43;intro xs6 n6 e6 t11 t12 hy44;refine an2 hy44 ?_;clear hy44;intro S13 hD6
    with_reducible (refine And.intro (St.kin ‹_›) ?_)
    refine useP (mk_setl hT) ‹_› d3 u3 ?_
    intro v5 P5 s14 S14 hs5 hT5
    with_reducible (refine sp0 ?_)
    have S15:=S14.perm (own':=_::_::_::(own ++ W)) ((List.Perm.cons _ (List.Perm.swap _ _ _)).trans (List.Perm.swap _ _ _))
    refine app S15 (fits_le (by rw [hrs.length,hti];lia)) ?_
    intro s16 S16
    have S17:=S16.perm (own':=_::_::_::(own ++ W)) ((List.Perm.swap _ _ _).trans (List.Perm.cons _ (List.Perm.swap _ _ _)))
    with_reducible (refine (by assumption:Nxt _ _ _ _ _ _ _) _ ?_;refine wpAny_execs_nil ?_;refine (by assumption:Imp _ _) _ _ ?_)
    refine mk3 _ (_::_::_::own) P5 ⟨S17,fun p hp=>hs5 _ (hs4 _ (.tail _ hp)),mk12 _ _ _ _ _ _ _ (ts ++ [.setl num t]) a2 b2 _ _ ⟨rfl,rfl,hD6,fun p hp=>hs5 _ (hs4 _ (.tail _ (hs _ (hP3 p hp)))),(hrs.mono fun v t h=>TR.mono _ _ _ _ (fun p hp=>hs5 _ (hs4 _ (.tail _ (hs _ hp)))) h).snoc hT5,hB.append (Bl.one (Bl.setl hBt (List.mem_append_right _ hnm))),by rw [List.length_append,hti];rfl,?_,?_⟩⟩
    · rw [sizes_append];simp only [sizes,T.size];rw [Nat.add_mul];lia
    · rw [deps_append];simp only [deps,T.dep];lia
  intro vals' own' P3 s3 S3 hx45
  refine ex12 hx45 ?_;clear hx45;intro xs3 n3 e3 u1 u2 vo rs ts a' b' v1 v2 hy48;refine an9 hy48 ?_;clear hy48;intro hx46 hx47 hD3 hP3 hrs hB hti hsz hdep
  symm at hx46;subst hx46
  symm at hx47;subst hx47
  clear S4 S7 S8 S9 S10
  have hc1:=hP3 _ (.tail _ hc1)
  have hc2:=hP3 _ (.tail _ hc2)
  have hnum:=hP3 _ (.tail _ hnum)
  have hbeg:=hP3 _ (.head _)
  obtain ⟨vz,hvz⟩:∃ v,ns[0]? = some v:=⟨ns[0],by simp [hnl]⟩
  refine ex2 (hns.at _ _ hvz) ?_;intro n0 tk0 hy50;refine an2 hy50 ?_;clear hy50;intro hx49 hn0'
  symm at hx49;subst hx49
  have hn0:n0∈nf a (kk + 1):=List.mem_of_getElem? hn0'
  have hsz:sizes ts≤5 * (sz + 1):=Nat.le_trans hsz (Nat.mul_le_mul_right _ (by lia))
  try refine (by assumption:Nxt _ _ _ _ _ _ _) _ ?_
  (refine eN ?_;intro _ _ _)
  refine cutF S3 (fun m' f s'=>f = .next∧∃ xs n e u1 u2 vo rs ts P4,St w c' m' ((D,listOf (xs:List Value).toArray n)::(X,listOf [Value.int a' u1,Value.int b' u2].toArray e)::(Lr,listOf (rs:List Value).toArray vo)::own) P4 s'∧Dk xs∧(∀ p∈P3,p∈P4) ∧
    All2 (TR w P4) rs ts∧Bls (known ++ nf a (kk + 1)) (a + ((kk + 1:Nat):Int)) (b + 1) a' b' ts∧ts.length≤6∧sizes ts≤5 * (sz + 1) + 3∧deps ts≤dp + 1) ?_ ?_
  · with_reducible (refine If_N ?_;intro _ _;refine wpAny_isTrue_Compare1 ?_ (by k_dflt rfl);refine call2 (x:=Str.ofString "_law_draw") ‹_› ‹_› (g_law_draw _) (kp_law_draw _) mm11 ?_ (by k_dflt rfl) (by k_dflt rfl);refine ev_cell ‹_› ‹_› (by k_dflt rfl) (by k_mem) ‹_› mm0 ?_;refine ev_int ‹_› ?_;intro _ _ _;refine And.intro (St.kin ‹_›) ?_)
    refine drawB ‹_› hD3 (by decide) (by decide) d2 u8 ?_
    intro r6 tkr6 s11 hx51 h60 h66
    refine ex5 hx51 ?_;clear hx51;intro xs5 n5 e5 t9 t10 hy52;refine an2 hy52 ?_;clear hy52;intro S11 hD5
    with_reducible (refine ev_int ‹_› ?_;intro _ _ _;refine eq_int ?_;refine wpAny_truthy_bool ?_;refine (by assumption:ImpG _ _) _ _ ?_)
    refine ifB (fun hb=>?_) (fun hb=>?_)
    · with_reducible (refine nameQ ?_;intro _ _;refine eN ?_;intro _ _ _;refine wpAny_Expr_any ?_ (by k_dflt rfl) (by k_dflt rfl);refine MethodCall_ ?_ (by k_dflt rfl);refine ev_lv ‹_› ‹_› LocV.a8 ?_;refine lmeth ‹_› (by k_mem) PySem.F.slot_list_insert PySem.F.type_list_insert ?_;refine callWith_method1 ?_ (by k_dflt rfl) (by k_dflt rfl);refine sp1 ?_ (by k_dflt rfl);refine call2 (x:=Str.ofString "_law_draw") ‹_› ‹_› (g_law_draw _) (kp_law_draw _) mm11 ?_ (by k_dflt rfl) (by k_dflt rfl);refine ev_cell ‹_› ‹_› (by k_dflt rfl) (by k_mem) ‹_› mm0 ?_;refine wpAny_BinOp ?_;refine callB1 (x:=Str.ofString "len") ‹_› ‹_› (gn_len _) bt_len bt_ne_len mm13 ?_ (by k_dflt rfl);refine ev_lv ‹_› ‹_› LocV.a8 ?_)
      refine len_O (xs:=rs) ‹_› (by k_mem) (by rw [hrs.length,hti];lia) ?_
      intro s9 tk9 S9
      with_reducible (refine ev_int ‹_› ?_;intro _ _ _;refine addS ‹_› ?_;intro _ _ _;refine And.intro (St.kin ‹_›) ?_)
      refine drawB ‹_› hD5 (by rw [hrs.length,hti];lia) (by rw [hrs.length,hti];lia) d2 u8 ?_
      intro at0 tkat s12 hx53 ha0 ha1
      refine ex5 hx53 ?_;clear hx53;intro xs6 n6 e6 t11 t12 hy54;refine an2 hy54 ?_;clear hy54;intro S12 hD6
      with_reducible (refine sp1 ?_ (by k_dflt rfl);refine call2 (x:=Str.ofString "Call") ‹_› ‹_› (g_Call _) (kp_Call _) mm17 ?_ (by k_dflt rfl) (by k_dflt rfl);refine call1 (x:=Str.ofString "Global") ‹_› ‹_› (g_Global _) (kp_Global _) mm18 ?_ (by k_dflt rfl);refine ev_int ‹_› ?_;intro _ _ _;refine And.intro (St.kin ‹_›) ?_)
      refine useP mk_glob ‹_› d3 u3 ?_
      intro w1 P4 s13 S13 hs4 hT1
      have hnum4:=hs4 _ hnum
      with_reducible (refine List_ ?_;refine sp1 ?_ (by k_dflt rfl);refine call1 (x:=Str.ofString "Local") ‹_› ‹_› (g_Local _) (kp_Local _) mm19 ?_ (by k_dflt rfl);refine Subscript_ ?_;refine ev_lv ‹_› ‹_› LocV.a5 ?_;refine ev_int ‹_› ?_;intro _ _ _)
      refine li_item (St.isListP ‹_› hnum4) (by decide) (by decide) hvz ?_ (by k_dflt rfl)
      with_reducible (refine And.intro (St.kin ‹_›) ?_)
      refine useP mk_loc ‹_› d3 u3 ?_
      intro w2 P5 s14 S14 hs5 hT2
      with_reducible (refine sp0 ?_;refine nl ‹_› ?_ sl1;intro _ _ _;refine And.intro (St.kin ‹_›) ?_)
      refine useP (mk_call (ts:=[_]) (TR.mono _ _ _ _ (fun p hp=>.tail _ (hs5 _ hp)) hT1) (.head _) (Nds.of (.cons (TR.mono _ _ _ _ (fun p hp=>.tail _ hp) hT2) .nil))) ‹_› d3 u3 ?_
      intro w3 P6 s15 S15 hs6 hT3
      with_reducible (refine sp0 ?_)
      have S16:=St.perm (own':=_::_::_::own) ‹_› ((List.Perm.cons _ (List.Perm.swap _ _ _)).trans (List.Perm.swap _ _ _))
      refine insS S16 ha0 (by have:=hrs.length;lia) (by rw [hrs.length,hti];lia) ?_
      intro s17 j S17
      have S18:=S17.perm (own':=_::_::_::own) ((List.Perm.swap _ _ _).trans (List.Perm.cons _ (List.Perm.swap _ _ _)))
      have hsub:∀ p∈P3,p∈P6:=fun p hp=>hs6 _ (.tail _ (hs5 _ (hs4 _ hp)))
      have hrs':=hrs.mono fun v t h=>TR.mono _ _ _ _ hsub h
      with_reducible (refine (by assumption:Nxt _ _ _ _ _ _ _) _ ?_;refine wpAny_execs_nil ?_;refine (by assumption:Imp _ _) _ _ ?_)
      refine ⟨rfl,mk9 _ _ _ _ _ _ _ (ts.take j ++ .call (.glob 1) [.loc n0]::ts.drop j) P6 ⟨S18,hD6,hsub,(hrs'.take j).append (.cons hT3 (hrs'.drop j)),hB.ins j ⟨trivial,List.mem_append_right _ hn0,trivial⟩ rfl rfl,?_,?_,?_⟩⟩
      · rw [len_ins,hti];lia
      · rw [sizes_ins];simp only [T.size,sizes];lia
      · rw [deps_ins];simp only [T.dep,deps];lia
    · with_reducible (refine wpAny_execs_nil ?_)
      exact ⟨rfl,mk9 _ _ _ _ _ _ _ ts _ ⟨by assumption,hD5,fun _ h=>h,hrs,hB,by lia,by lia,hdep⟩⟩
  intro f s4 hx55
  refine an2 hx55 ?_;clear hx55;intro hx56 hz57;refine ex9 hz57 ?_;clear hz57;intro xs4 n4 e4 u3' u4' vo4 rs4 ts4 P4 hy58;refine an8 hy58 ?_;clear hy58;intro S4 hD4 hs4 hrs4 hB4 htl4 hsz4 hdep4
  symm at hx56;subst hx56
  clear S3 hrs hB hti hsz hdep
  have hc1:=hs4 _ hc1
  have hc2:=hs4 _ hc2
  have hnum:=hs4 _ hnum
  have hbeg:=hs4 _ hbeg
  try dsimp only
  with_reducible (refine (by assumption:Nxt _ _ _ _ _ _ _) _ ?_;refine nameQ ?_;intro _ _;refine eN ?_;intro _ _ _;refine wpAny_Expr_any ?_ (by k_dflt rfl) (by k_dflt rfl);refine MethodCall_ ?_ (by k_dflt rfl);refine ev_lv ‹_› ‹_› LocV.a8 ?_;refine lmeth ‹_› (by k_mem) PySem.F.slot_list_append PySem.F.type_list_append ?_;refine callWith_method1 ?_ (by k_dflt rfl) (by k_dflt rfl);refine sp1 ?_ (by k_dflt rfl))
  refine cutE S4 (fun m' v s'=>∃ P5 t a5 b5,BS w c' m' D X ((Lr,listOf rs4.toArray vo4)::own) P5 a5 b5 s'∧(∀ p∈P4,p∈P5)∧TR w P5 v t∧Bl (known ++ nf a (kk + 1)) a' b' a5 b5 t∧t.size≤3∧t.dep≤3) ?_ ?_
  · with_reducible (refine IfExp_ ?_;refine wpAny_isTrue_Compare1 ?_ (by k_dflt rfl);refine call2 (x:=Str.ofString "_law_draw") ‹_› ‹_› (g_law_draw _) (kp_law_draw _) mm11 ?_ (by k_dflt rfl) (by k_dflt rfl);refine ev_cell ‹_› ‹_› (by k_dflt rfl) (by k_mem) ‹_› mm0 ?_;refine ev_int ‹_› ?_;intro _ _ _;refine And.intro (St.kin ‹_›) ?_)
    refine drawB ‹_› hD4 (by decide) (by decide) d2 u8 ?_
    intro r6 tkr6 s11 hx59 h60 h66
    refine ex5 hx59 ?_;clear hx59;intro xs5 n5 e5 t9 t10 hy60;refine an2 hy60 ?_;clear hy60;intro S11 hD5
    with_reducible (refine ev_int ‹_› ?_;intro _ _ _;refine PySem.P.gt_int ?_;refine wpAny_truthy_bool ?_)
    refine ifB (fun hb=>?_) (fun hb=>?_)
    · with_reducible (refine call1 (x:=Str.ofString "Local") ‹_› ‹_› (g_Local _) (kp_Local _) mm19 ?_ (by k_dflt rfl);refine call2 (x:=Str.ofString "_law_one") ‹_› ‹_› (g_law_one _) (kp_law_one _) mm14 ?_ (by k_dflt rfl) (by k_dflt rfl);refine ev_cell ‹_› ‹_› (by k_dflt rfl) (by k_mem) ‹_› mm0 ?_;refine ev_lv ‹_› ‹_› LocV.a5 ?_;refine And.intro (St.kin ‹_›) ?_)
      refine oneB ‹_› hD5 hnum hns (by lia) (by lia) d3 u9 ?_
      intro r tk s1 hx61 hr
      refine ex5 hx61 ?_;clear hx61;intro xs6 n6 e6 t11 t12 hy62;refine an2 hy62 ?_;clear hy62;intro S12 hD6
      with_reducible (refine And.intro (St.kin ‹_›) ?_)
      refine useP mk_loc ‹_› d3 u3 ?_
      intro w2 P5 s14 S14 hs5 hT2
      exact mk4 P5 _ a' b' ⟨(mk5 _ _ _ _ _ ⟨S14,hD6⟩),hs5,hT2,Bl.loc (List.mem_append_right _ hr),by simp [T.size],by simp [T.dep]⟩
    · with_reducible (refine call2 (x:=Str.ofString "SetLocal") ‹_› ‹_› (g_SetLocal _) (kp_SetLocal _) mm15 ?_ (by k_dflt rfl) (by k_dflt rfl);refine Subscript_ ?_;refine ev_lv ‹_› ‹_› LocV.a5 ?_;refine ev_int ‹_› ?_;intro _ _ _)
      refine li_item (St.isListP ‹_› hnum) (by decide) (by decide) hvz ?_ (by k_dflt rfl)
      with_reducible (refine call4 (x:=Str.ofString "Lambda") ‹_› ‹_› (g_Lambda _) (kp_Lambda _) mm20 ?_ (by k_dflt rfl) (by k_dflt rfl) (by k_dflt rfl) (by k_dflt rfl);refine call2 (x:=Str.ofString "_law_new") ‹_› ‹_› (g_law_new _) (kp_law_new _) mm12 ?_ (by k_dflt rfl) (by k_dflt rfl);refine ev_cell ‹_› ‹_› (by k_dflt rfl) (by k_mem) ‹_› mm1 ?_;refine ev_int ‹_› ?_;intro _ _ _;refine And.intro (St.kin ‹_›) ?_)
      refine new1B ‹_› hD5 d1 u8 ?_
      intro tk1 s1 hx63
      refine ex5 hx63 ?_;clear hx63;intro xs6 n6 e6 t11 t12 hy64;refine an2 hy64 ?_;clear hy64;intro S12 hD6
      with_reducible (refine List_ ?_;refine sp0 ?_;refine nl ‹_› ?_ sl0;intro _ _ _;refine UnaryOp_ ?_;refine ev_int ‹_› ?_;intro _ _ _;refine negS ‹_› ?_;intro _ _ _;refine call1 (x:=Str.ofString "Const") ‹_› ‹_› (g_Const _) (kp_Const _) mm21 ?_ (by k_dflt rfl);refine ev_int ‹_› ?_;intro _ _ _;refine And.intro (St.kin ‹_›) ?_)
      refine useP (mk_cint (i:=1)) ‹_› d3 u3 ?_
      intro w2 P5 s14 S14 hs5 hT2
      with_reducible (refine And.intro (St.kin ‹_›) ?_)
      refine useP (mk_lam (ps:=[]) (hs5 _ (.head _)) .nil hT2) ‹_› d3 u3 ?_
      intro w3 P6 s15 S15 hs6 hT3
      with_reducible (refine And.intro (St.kin ‹_›) ?_)
      refine useP (mk_setl hT3) ‹_› d3 u3 ?_
      intro w4 P7 s16 S16 hs7 hT4
      refine mk4 P7 _ a' (b' + 1) ⟨(mk5 _ _ _ _ _ ⟨S16,hD6⟩),fun p hp=>hs7 _ (hs6 _ (hs5 _ (.tail _ hp))),hT4,⟨⟨List.mem_append_right _ hn0,trivial⟩,?_,?_,Int.le_refl _,by lia⟩,by simp [T.size],by simp [T.dep]⟩
      · simpa [binds] using In.nil
      · simpa [labs] using In.one (a:=b') (b:=b' + 1) (i:=b' + 1) (by lia) (by lia)
  intro v s5 hx65
  refine ex4 hx65 ?_;clear hx65;intro P5 t a5 b5 hy67;refine an6 hy67 ?_;clear hy67;intro hx66 hs5 hT hBt hts htd
  refine ex5 hx66 ?_;clear hx66;intro xs6 n6 e6 t11 t12 hy68;refine an2 hy68 ?_;clear hy68;intro S12 hD6
  clear S4
  with_reducible (refine sp0 ?_)
  have S16:=St.perm (own':=_::_::_::own) ‹_› ((List.Perm.cons _ (List.Perm.swap _ _ _)).trans (List.Perm.swap _ _ _))
  refine app S16 (fits_le (by rw [hrs4.length];lia)) ?_
  intro s17 S17
  have S18:=S17.settle
  have hbeg:=hs5 _ hbeg
  have hnum:=hs5 _ hnum
  have hrs5:Nds w ((Lr,listOf (rs4 ++ [v]).toArray (vo4 + 1))::P5) (rs4 ++ [v]) (ts4 ++ [t]):=Nds.of ((hrs4.mono fun v t h=>TR.mono _ _ _ _ (fun p hp=>.tail _ (hs5 _ hp)) h).snoc (TR.mono _ _ _ _ (fun p hp=>.tail _ hp) hT))
  with_reducible (refine (by assumption:Nxt _ _ _ _ _ _ _) _ ?_;refine eI ‹_› ?_;intro _ _ _;refine wpAny_Return_some ?_;refine call2 (x:=Str.ofString "Call") ‹_› ‹_› (g_Call _) (kp_Call _) mm17 ?_ (by k_dflt rfl) (by k_dflt rfl);refine call4 (x:=Str.ofString "Lambda") ‹_› ‹_› (g_Lambda _) (kp_Lambda _) mm20 ?_ (by k_dflt rfl) (by k_dflt rfl) (by k_dflt rfl) (by k_dflt rfl);refine ev_lv ‹_› ‹_› LocV.a9 ?_;refine ev_lv ‹_› ‹_› LocV.a5 ?_;refine UnaryOp_ ?_;refine ev_int ‹_› ?_;intro _ _ _;refine negS ‹_› ?_;intro _ _ _;refine call1 (x:=Str.ofString "Seq") ‹_› ‹_› (g_Seq _) (kp_Seq _) mm22 ?_ (by k_dflt rfl);refine ev_lv ‹_› ‹_› LocV.a8 ?_;refine And.intro (St.kin ‹_›) ?_)
  refine useP (mk_seq (.head _) hrs5) ‹_› d3 u3 ?_
  intro w4 P6 s18 S19 hs6 hT4
  with_reducible (refine And.intro (St.kin ‹_›) ?_)
  refine useP (mk_lam (hs6 _ (.tail _ hnum)) hns hT4) ‹_› d3 u3 ?_
  intro w5 P7 s19 S20 hs7 hT5
  with_reducible (refine ev_lv ‹_› ‹_› LocV.a7 ?_;refine And.intro (St.kin ‹_›) ?_)
  have hbt7:=hbt.mono fun v t h=>TR.mono _ _ _ _ (fun p hp=>hs7 _ (hs6 _ (.tail _ (hs5 _ (hs4 _ (hP3 _ (.tail _ hp))))))) h
  refine useP (mk_call hT5 (hs7 _ (hs6 _ (.tail _ hbeg))) (Nds.of hbt7)) ‹_› d3 u3 ?_
  intro w6 P8 s20 S21 hs8 hT6
  refine an5 (consts_of hbc) ?_;intro _ _ _ hcs hcd
  with_reducible (refine (by assumption:Abr _ _) _ _ (by k_dflt rfl) ?_;refine (by assumption:Imp _ _) _ _ ?_)
  refine mk4 _ (_::_::own) [] P8 ⟨by rw [List.append_nil];exact S21,fun p hp=>hs8 _ (hs7 _ (hs6 _ (.tail _ (hs5 _ (hs4 _ (hP3 _ (.tail _ (hP2 _ (.tail _ (hP1 _ (.tail _ (.tail _ hp)))))))))))),(by rfl),mk8 _ _ _ _ _ _ _ _ ⟨rfl,hD6,hT6,Bl.letL (nf_in a (kk + 1)) (by lia) (by lia) (hB4.append (Bl.one hBt)) hbc,?_,?_⟩⟩
  · simp only [T.size,sizes_append,sizes,nf_len];lia
  · simp only [T.dep,deps_append,deps];lia
theorem late_all (w:World):Maker w 555 2 12 1737 22 56:=by
  have v0:=value_of (w:=w) 0 6 1 1 (by decide) (by decide) (by decide) (fun d' h=>nomatch h)
  have l0:=late_x 0 _ _ _ (by decide) (by decide) v0
  have v1:=value_of (w:=w) 1 8 57 8 (by decide) (by decide) (by decide) (fun d' h=>by cases h;exact l0)
  have l1:=late_x 1 _ _ _ (by decide) (by decide) v1
  have v2:=value_of (w:=w) 2 10 337 15 (by decide) (by decide) (by decide) (fun d' h=>by cases h;exact l1)
  exact late_x 2 _ _ _ (by decide) (by decide) v2
end
section
open PySem.Calls
theorem enterG {w:World} {c:Cx} {m:Str→Option Value} {cells rest P:Led} {s:Shared} {Q E:Value→Shared→Prop} {K:Frag} {name qual:Str} {params:Arguments} {body:List Stmt} {ns:List (Str × NameKind)} {mo:List (Str × Const)} {dV kV doc pm cdv ct oc:Value} {an od:Option Addr} {osl:Array (Option Value)} {f:Addr} {vs:List Value} {Out:Led→Led→Value→Prop}
    (hK:K = hd.heap_39 w.params) (S:St w c m (cells ++ rest) P s)
    (ho:K.lookup f = some ⟨oc,od,.func (fnOf name qual params body (fnSc ns mo) dV kV doc pm an cdv ct),osl⟩) (hcd:codeIn K cdv qual = true) (hroom:c.A.depth < recursionLimit)
    (hbind:BindsTo s (fnOf name qual params body (fnSc ns mo) dV kV doc pm an cdv ct) ⟨vs,[]⟩ ((params.args.map (·.arg)).zip vs)) (hlen:(params.args.map (·.arg)).length = vs.length) (hgood:goodFn ns (params.args.map (·.arg)) = true)
    (h:∀ c' s',goodNs ns = true→c'.A.depth = c.A.depth + 1→c'.A.units = c.A.units + 3→St w c' (asg ns (vs.map some)) cells P s' →
      wpAny (model rw_pq1024_01.row.prog w) c'.A (execs body (envX qual (fnSc ns mo) c'.L f cdv [])) (fun fl s''=>Ends w c' P Out (match fl with | .ret v=>v | _=>.none) s'') (fun _ _=>False) s')
    (ret:∀ r cells' P' s',St w c m (cells' ++ rest) P' s'→(∀ p∈P,p∈P')→Out cells' P' r→Q r s') :
    codeAny (model rw_pq1024_01.row.prog w) c.A (.call (.ref f) ⟨vs,[]⟩) (fun r s'=>match r with | .ok (.ret v)=>Q v s' | .ok _=>False | .error e=>E e s') s:=by
  subst hK
  refine ex1 (S.fr) ?_;intro e hy1;refine an3 hy1 ?_;clear hy1;intro hA hf hke
  have Nsub:News c.g c.L s.heap (cells ++ P):=fun p hp=>S.N p ((List.mem_append.mp hp).elim (fun h=>List.mem_append_left _ (List.mem_append_left _ h)) fun h=>List.mem_append_right _ h)
  simp only [goodFn,Bool.and_eq_true,List.all_eq_true,bne_iff_ne,ne_eq] at hgood
  refine an2 hgood ?_;clear hgood;intro hx2 hcell
  refine an2 hx2 ?_;clear hx2;intro hg hpre
  have hloc:∀ y∈(params.args.map (·.arg)).zip vs,(fnSc ns mo).names.lookup y.1 = some .local:=fun y hy=>(goodNs_mem hg (prefix_mem hpre _ (List.of_mem_zip hy).1)).1
  refine code_defG (news:=cells ++ P) S.B S.F S.X Nsub S.T hA hf hke ho hcd hroom hbind hloc (fun g L' h₁ FG F' N' B' X' T' G'=>?_) rfl rfl rfl hcell
  have hasg:(fun y=>((params.args.map (·.arg)).zip vs).reverse.lookup y) = asg ns (vs.map some):=funext fun y=>asg_args y hg hpre hlen
  rw [hasg] at F'
  have ndc:(cells.map (·.1)).Nodup:=by
    have:=S.nd
    rw [List.map_append] at this
    exact (List.nodup_append.mp this).1
  let c':Cx:=⟨c.pp,c.loose,c.mean,c.mg,c.mb,c.A,c.base,e::c.outer,g,L',c.A.deeper (envOf qual (fnSc ns mo) L' f cdv),s⟩
  have S':St w c' (asg ns (vs.map some)) cells P { s with heap:=h₁,toks:=s.toks + ((params.args.map (·.arg)).zip vs).length } :=
    ⟨F',N',apart_left S.ap,ndc,X',T',B',S.hh,⟨_,Around.frames_deeper B'.stack,rfl,rfl⟩,rfl,rfl,rfl⟩
  refine wpAny_mono (h c' _ hg rfl rfl S') (fun fl s' hdn=>?_) fun _ _ e=>e.elim
  refine ex4 hdn ?_;clear hdn;intro m₂ cells' own' P' hy3;refine an3 hy3 ?_;clear hy3;intro S₂ hs hO
  refine mk3 L' m₂ ((cells' ++ own') ++ P') ⟨S₂.F,S₂.N,fun F₃ N₃=>?_⟩
  have hid:∀ q∈rest,q.1 ∉ (cells ++ P).map (·.1):=fun q hq hm=>by
    refine ex1 (List.mem_map.mp hm) ?_;intro p hy4;refine an2 hy4 ?_;clear hy4;intro hp e
    rcases List.mem_append.mp hp with hp | hp
    · have:=S.nd
      rw [List.map_append,List.nodup_append] at this
      exact this.2.2 p.1 (List.mem_map_of_mem hp) q.1 (List.mem_map_of_mem hq) e
    · exact S.ap q (List.mem_append_right _ hq) p hp e
  have gq:∀ q∈rest,g.get? q.1 = some q.2:=fun q hq=>G' _ _ (S.N q (List.mem_append_left _ (List.mem_append_right _ hq))).1 (hid q hq)
  have eq':s' = { s with heap:=s'.heap,toks:=s'.toks }:=by
    have h1:=S₂.eg
    have h2:=S₂.ed
    have h3:=S₂.eo
    cases s'
    dsimp only [c'] at h1 h2 h3
    subst h1 h2 h3
    rfl
  have ap':Apart (cells' ++ rest) P':=by
    intro q hq p hp e
    rcases List.mem_append.mp hq with hq | hq
    · exact S₂.ap q (List.mem_append_left _ hq) p hp e
    · have h1:=(S₂.N p (List.mem_append_right _ hp)).2.2
      rw [e,gq q hq] at h1
      cases h1
  have nd':((cells' ++ rest).map (·.1)).Nodup:=by
    have h1:=S.nd
    have h2:=S₂.nd
    rw [List.map_append] at h1 h2 ⊢
    refine List.nodup_append.mpr ⟨(List.nodup_append.mp h2).1,(List.nodup_append.mp h1).2.1,fun a ha b hb e=>?_⟩
    refine ex1 (List.mem_map.mp ha) ?_;intro q hy6;refine an2 hy6 ?_;clear hy6;intro hq hx5
    symm at hx5;subst hx5
    refine ex1 (List.mem_map.mp hb) ?_;intro p hy8;refine an2 hy8 ?_;clear hy8;intro hp hx7
    symm at hx7;subst hx7
    have h3:=(S₂.N q (List.mem_append_left _ (List.mem_append_left _ hq))).2.2
    rw [e,gq p hp] at h3
    cases h3
  refine ret _ cells' P' s' ⟨F₃,fun p hp=>?_,ap',nd',S.X,S.T,S.B,S.hh,S.fr,(congrArg Shared.gens eq').trans S.eg,(congrArg Shared.drawn eq').trans S.ed,(congrArg Shared.os eq').trans S.eo⟩ hs hO
  rcases List.mem_append.mp hp with hp | hp
  · rcases List.mem_append.mp hp with hp | hp
    · exact N₃ p (List.mem_append_left _ (List.mem_append_left _ hp))
    · exact ⟨S₂.F.keep _ _ (gq p hp),(S.N p (List.mem_append_left _ (List.mem_append_right _ hp))).2⟩
  · exact N₃ p (List.mem_append_right _ hp)
noncomputable abbrev IK (w:World):=PySem.intKind rw_pq1024_01.row.prog w
noncomputable abbrev KV:=List (Int × Value)
inductive Dcs (w:World):Led→List (Addr × KV)→Prop
  | nil:Dcs w [] []
  | cons {d:Addr} {o:Obj} {kv:KV} {cells:Led} {l:List (Addr × KV)}:o.IsDictOf (IK w) kv→(d == sysModules) = false→Dcs w cells l→Dcs w ((d,o)::cells) ((d,kv)::l)
theorem Dcs.at {w:World}:∀ {cells:Led} {l:List (Addr × KV)} {i:Nat} {d:Addr} {kv:KV},Dcs w cells l→l[i]? = some (d,kv)→∃ o,cells[i]? = some (d,o)∧o.IsDictOf (IK w) kv∧(d == sysModules) = false
  | _,_,0,_,_,.cons h k _,e=>by cases e;exact ⟨_,rfl,h,k⟩
  | _,_,i + 1,_,_,.cons _ _ r,e=>r.at (i:=i) e
theorem Dcs.set {w:World}:∀ {cells:Led} {l:List (Addr × KV)} {i:Nat} {d:Addr} {kv kv':KV} {o':Obj},Dcs w cells l→l[i]? = some (d,kv)→o'.IsDictOf (IK w) kv'→Dcs w (cells.set i (d,o')) (l.set i (d,kv'))
  | _,_,0,_,_,_,_,.cons _ k r,e,ho=>by cases e;exact .cons ho k r
  | _,_,i + 1,_,_,_,_,.cons h k r,e,ho=>.cons h k (r.set (i:=i) e ho)
theorem Dcs.append {w:World}:∀ {cells cells':Led} {l l':List (Addr × KV)},Dcs w cells l→Dcs w cells' l'→Dcs w (cells ++ cells') (l ++ l'):=by
  intro cells cells' l l' h k
  induction h with
  | nil=>exact k
  | cons h e _ ih=>exact .cons h e ih
theorem Dcs.length {w:World}:∀ {cells:Led} {l:List (Addr × KV)},Dcs w cells l→cells.length = l.length:=by
  intro cells l h
  induction h with
  | nil=>rfl
  | cons _ _ _ ih=>rw [List.length_cons,List.length_cons,ih]
theorem set_split {α:Type}:∀ {l:List α} {i:Nat} {a b:α},l[i]? = some a→l = l.take i ++ a::l.drop (i + 1)∧l.set i b = l.take i ++ b::l.drop (i + 1)
  | x::r,0,_,_,e=>by cases e;exact ⟨rfl,rfl⟩
  | x::r,i + 1,a,b,e=>by
    have:=set_split (b:=b) (l:=r) (i:=i) e
    refine ⟨?_,?_⟩
    · show x::r = x::(r.take i ++ a::r.drop (i + 1))
      rw [← this.1]
    · show x::r.set i b = x::(r.take i ++ b::r.drop (i + 1))
      rw [← this.2]
section
variable {w:World} {c:Cx} {m:Str→Option Value} {cells rest P:Led} {l:List (Addr × KV)} {s:Shared} {E:Value→Shared→Prop} {Q:Value→Shared→Prop} {i:Nat} {d:Addr} {kv:KV} {k:Int} {t:Tok}
theorem mem_of_get {α:Type} {l:List α} {i:Nat} {a:α} (h:l[i]? = some a):a∈l:=List.mem_of_getElem? h
theorem dset {v:Value} {Q:Unit→Shared→Prop} (D:Dcs w cells l) (S:St w c m (cells ++ rest) P s) (hi:l[i]? = some (d,kv)) (hz:kv.length≤1000000)
    (h:∀ cells' s',Dcs w cells' (l.set i (d,stored kv k v))→St w c m (cells' ++ rest) P s'→Q () s'):wpAny (model rw_pq1024_01.row.prog w) c.A (PySem.setItem (.ref d) (.int k t) v) Q E s:=by
  refine ex1 (D.at hi) ?_;intro o hy9;refine an3 hy9 ?_;clear hy9;intro hc ho hlo
  have hm:=S.N (d,o) (List.mem_append_left _ (List.mem_append_left _ (mem_of_get hc)))
  refine wpAny_setItem_pairs (hsz:=fits_le hz) (intKind_is _ _ _ _) (Heap.dictOf_iff.mpr ⟨o,hm.1,ho⟩) fun h' hmm hs=>?_
  refine ex1 (Heap.dictOf_iff.mp hmm) ?_;intro o' hy10;refine an2 hy10 ?_;clear hy10;intro ho' hd'
  refine h (cells.set i (d,o')) _ (D.set hi hd') ?_
  have e:=set_split (b:=(d,o')) hc
  have S1:St w c m (cells.take i ++ (d,o)::(cells.drop (i + 1) ++ rest)) P s:=by
    have:=S
    rw [e.1] at this
    simpa using this
  have S2:=S1.put (tk:=s.toks + 1) (fun b ob hb eb=>hs.extBut b ob hb eb) ho'
  rw [e.2]
  simpa using S2
theorem dN (D:Dcs w cells l) (_S:St w c m (cells ++ rest) P s) (hi:l[i]? = some (d,kv)):∃ o,(d,o)∈(cells ++ rest) ++ P∧o.IsDictOf (IK w) kv∧(d == sysModules) = false:=by
  refine ex1 (D.at hi) ?_;intro o hy11;refine an3 hy11 ?_;clear hy11;intro hc ho hlo
  exact mk1 o ⟨List.mem_append_left _ (List.mem_append_left _ (mem_of_get hc)),ho,hlo⟩
theorem ditem {value slice:Expr} {v:Value} (D:Dcs w cells l) (S:St w c m (cells ++ rest) P s) (hi:l[i]? = some (d,kv)) (hl:valueAt kv k = some v) (h:∀ s',St w c m (cells ++ rest) P s'→Q v s')
    (hs:subscripted slice false (.ref d) (.int k t) = operate [.ref d,.int k t] (getItem (.ref d) (.int k t))) :
    wpAny (model rw_pq1024_01.row.prog w) c.A (subscriptTail value slice (.ref d) (.int k t)) Q E s:=by
  refine ex1 (dN D S hi) ?_;intro o hy12;refine an3 hy12 ?_;clear hy12;intro hm ho hlo
  exact tail_any (kda_dict S.N hm ho).typeIs slot_dict_getitem.lookup (kdt_getItem (knd:=IK w) S.N hm ho (intKind_is _ _ _ _) hl (h _ (S.tok _))) hs
theorem dget2 {dflt:Value} (D:Dcs w cells l) (S:St w c m (cells ++ rest) P s) (hi:l[i]? = some (d,kv)) (h:∀ s',St w c m (cells ++ rest) P s'→Q ((valueAt kv k).getD dflt) s') :
    wpAny (model rw_pq1024_01.row.prog w) c.A (call (.builtin "dict.get") [.ref d,.int k t,dflt]) Q E s:=by
  refine ex1 (dN D S hi) ?_;intro o hy14;refine an3 hy14 ?_;clear hy14;intro hm ho hlo
  exact kdg_get2 (knd:=IK w) S.N hm ho hlo (intKind_is _ _ _ _) _ rfl (h _ (S.tok _))
theorem dgetm {pl:Sem Bool} {Q:Value × List Value→Shared→Prop} (D:Dcs w cells l) (S:St w c m (cells ++ rest) P s) (hi:l[i]? = some (d,kv)) (h:Q (.builtin "dict.get",[.ref d]) s):wpAny (model rw_pq1024_01.row.prog w) c.A (getMethod (.ref d) "get" pl) Q E s:=by
  refine ex1 (dN D S hi) ?_;intro o hy15;refine an3 hy15 ?_;clear hy15;intro hm ho hlo
  exact kdg_method (knd:=IK w) S.N hm ho h
theorem dnotin (D:Dcs w cells l) (S:St w c m (cells ++ rest) P s) (hi:l[i]? = some (d,kv)) (h:∀ s',St w c m (cells ++ rest) P s'→Q (.bool (!(valueAt kv k).isSome)) s'):wpAny (model rw_pq1024_01.row.prog w) c.A (compareOp .NotIn (.int k t) (.ref d)) Q E s:=by
  refine ex1 (dN D S hi) ?_;intro o hy17;refine an3 hy17 ?_;clear hy17;intro hm ho hlo
  exact kdg_notin (knd:=IK w) S.N hm ho hlo (intKind_is _ _ _ _) _ rfl (h _ (S.tok _))
theorem dnew {env:Env} {pos:Pos} {own:Led} (S:St w c m own P s) (h:∀ d o s',o.IsDictOf (IK w) []→(d == sysModules) = false→St w c m ((d,o)::own) P s'→Q (.ref d) s') :
    wpAny (model rw_pq1024_01.row.prog w) c.A (eval (.Dict [] [] pos) env) Q E s :=
  newDict_K S.F S.N S.T.nolimit fun d h' o F' N' lt lo _ _ hd _=>h d o _ hd lo (S.addO (tk:=s.toks) F' N' lt)
end
theorem valueAt_stored (kv:KV) (k x:Int) (v:Value):valueAt (stored kv k v) x = if x = k then some v else valueAt kv x:=by
  unfold stored
  by_cases h:(kv.any fun kv=>kv.1 = k) = true
  · rw [if_pos h]
    induction kv with
    | nil=>simp at h
    | cons p r ih =>
      by_cases hp:p.1 = k
      · subst hp
        by_cases hx:x = p.1
        · subst hx;simp [valueAt]
        · have hx':¬ p.1 = x:=fun e=>hx e.symm
          have:∀ r:KV,valueAt (r.map fun kv=>if kv.1 = p.1 then (kv.1,v) else kv) x = valueAt r x:=by
            intro r
            induction r with
            | nil=>rfl
            | cons q r ih =>
              simp only [valueAt,List.map_cons,List.find?_cons] at ih ⊢
              by_cases hq:q.1 = p.1
              · have:¬ q.1 = x:=fun e=>hx' (hq ▸ e)
                simp only [hq,if_true,hx',decide_false,this]
                simpa using ih
              · simp only [hq,if_false]
                by_cases hqx:q.1 = x
                · simp [hqx]
                · simp only [hqx,decide_false];simpa using ih
          have h2:=this r
          simp only [valueAt,List.map_cons,List.find?_cons,if_true,hx',decide_false,hx,if_false] at h2 ⊢
          simpa using h2
      · have h':(r.any fun kv=>kv.1 = k) = true:=by simpa [List.any_cons,hp] using h
        have ih:=ih h'
        simp only [valueAt,List.map_cons,List.find?_cons,hp,if_false] at ih ⊢
        by_cases hx:p.1 = x
        · have:¬ x = k:=fun e=>hp (hx.trans e)
          simp [hx,this]
        · simp only [hx,decide_false];simpa using ih
  · rw [if_neg h]
    have hn:∀ p∈kv,¬ p.1 = k:=fun p hp e=>h (List.any_eq_true.mpr ⟨p,hp,by simpa using e⟩)
    unfold valueAt
    rw [List.find?_append]
    by_cases hx:x = k
    · subst hx
      have:(kv.find? fun q=>decide (q.1 = x)) = none:=List.find?_eq_none.mpr fun p hp=>by simpa using hn p hp
      simp [this]
    · have:¬ k = x:=fun e=>hx e.symm
      simp [hx,this]
theorem len_stored (kv:KV) (k:Int) (v:Value):(stored kv k v).length≤kv.length + 1:=stored_length_le kv k v
end
section
open PySem.Calls
mutual
noncomputable def setn:T→List Int
  | .cint _=>[] | .cun=>[] | .loc _=>[] | .glob _=>[]
  | .setl n v=>n::setn v
  | .lam _ _ b=>setn b
  | .call f xs=>setn f ++ setns xs
  | .seq xs=>setns xs
  | .fix _ ls b=>setns ls ++ setn b
noncomputable def setns:List T→List Int
  | []=>[]
  | t::r=>setn t ++ setns r
end
theorem setns_append:∀ a b:List T,setns (a ++ b) = setns a ++ setns b
  | [],_=>rfl
  | t::r,b=>by simp only [List.cons_append,setns,setns_append r b,List.append_assoc]
noncomputable def T.hereSet:T→List Int
  | .setl n _=>[n]
  | _=>[]
theorem setn_eq (t:T):setn t = t.hereSet ++ setns t.kids:=by
  cases t <;> simp [setn,T.hereSet,T.kids,setns,setns_append]
theorem setns_mem:∀ {l:List T} {t:T},t∈l→∀ n∈setn t,n∈setns l
  | _::r,_,.head _,n,h=>List.mem_append_left _ h
  | _::r,_,.tail _ m,n,h=>List.mem_append_right _ (setns_mem m n h)
theorem setn_kid {t k:T} (h:k∈t.kids):∀ n∈setn k,n∈setn t:=fun n hn=>by rw [setn_eq];exact List.mem_append_right _ (setns_mem h n hn)
noncomputable def isLC (v:T):Bool:=v.kind == 7 || v.kind == 0
noncomputable def isE:T→Bool
  | .setl _ v=>isLC v
  | _=>false
noncomputable def isLam (v:T):Bool:=v.kind == 7
noncomputable def tkn (c:Int→Nat) (late:List Int):T→Bool
  | .setl n v=>isLam v && (late.contains n && c n == 1)
  | _=>false
noncomputable def T.num:T→Int
  | .setl n _=>n
  | _=>0
noncomputable def T.valu:T→T
  | .setl _ v=>v
  | t=>t
noncomputable def T.isUn:T→Bool
  | .cun=>true
  | _=>false
noncomputable def lateOf (ps:List Int) (xs:List T):List Int:=((ps.zip xs).filter fun p=>p.2.isUn).map (·.1)
noncomputable def seqOf:List T→T
  | [t]=>t
  | ts=>.seq ts
noncomputable def early (items:List T):List T:=(items.dropLast).takeWhile isE
noncomputable def turnL (c:Int→Nat) (l:Int) (ps:List Int) (items xs:List T):T :=
  let pre:=early items
  let tk:=pre.filter (tkn c (lateOf ps xs))
  if tk.isEmpty then .call (.lam l ps (.seq items)) xs else
    let body:=T.fix (tk.map T.num) (tk.map T.valu) (seqOf (pre.filter (fun t=>!tkn c (lateOf ps xs) t) ++ items.drop pre.length))
    let kept:=(ps.zip xs).filter fun p=>!(tk.map T.num).contains p.1
    if kept.isEmpty then body else .call (.lam l (kept.map (·.1)) body) (kept.map (·.2))
noncomputable def turn (c:Int→Nat):T→T
  | .call (.lam l ps (.seq items)) xs=>if ps.length = xs.length then turnL c l ps items xs else .call (.lam l ps (.seq items)) xs
  | t=>t
mutual
noncomputable def fixT (c:Int→Nat):T→T
  | .setl n v=>.setl n (fixT c v)
  | .lam l ps b=>.lam l ps (fixT c b)
  | .call f xs=>turn c (.call (fixT c f) (fixTs c xs))
  | .seq xs=>.seq (fixTs c xs)
  | .fix ns ls b=>.fix ns (fixTs c ls) (fixT c b)
  | .cint i=>.cint i
  | .cun=>.cun
  | .loc n=>.loc n
  | .glob n=>.glob n
noncomputable def fixTs (c:Int→Nat):List T→List T
  | []=>[]
  | t::r=>fixT c t::fixTs c r
end
theorem fixTs_map (c:Int→Nat):∀ l:List T,fixTs c l = l.map (fixT c)
  | []=>rfl
  | t::r=>by rw [fixTs,fixTs_map c r];rfl
/-- the tree with other kids -/
noncomputable def T.wk:T→List T→T
  | .setl n _,[v]=>.setl n v
  | .lam l ps _,[b]=>.lam l ps b
  | .call _ _,f::xs=>.call f xs
  | .seq _,xs=>.seq xs
  | t,_=>t
noncomputable def noFix:T→Bool
  | .fix _ _ _=>false
  | _=>true
theorem fixT_eq (c:Int→Nat) (t:T) (h:noFix t = true):fixT c t = turn c (t.wk (t.kids.map (fixT c))):=by
  cases t with
  | cint i=>rfl
  | cun=>rfl
  | loc n=>rfl
  | glob n=>rfl
  | setl n v=>rfl
  | lam l ps b=>rfl
  | call f xs=>show turn c (.call (fixT c f) (fixTs c xs)) = turn c (.call (fixT c f) (xs.map (fixT c)));rw [fixTs_map]
  | seq xs=>show T.seq (fixTs c xs) = T.seq (xs.map (fixT c));rw [fixTs_map]
  | fix ns ls b=>simp [noFix] at h
theorem wk_kids (t:T):t.wk t.kids = t:=by cases t <;> rfl
theorem sizes_filter (p:T→Bool):∀ l:List T,sizes (l.filter p) + sizes (l.filter fun t=>!p t) = sizes l
  | []=>rfl
  | t::r=>by
    have:=sizes_filter p r
    cases hp:p t <;> simp [List.filter_cons,hp,sizes] <;> lia
theorem sizes_map_valu:∀ l:List T,(∀ t∈l,isE t = true)→sizes (l.map T.valu) + l.length = sizes l
  | [],_=>rfl
  | t::r,h=>by
    have h1:=sizes_map_valu r fun t ht=>h t (.tail _ ht)
    have h2:=h t (.head _)
    cases t <;> simp [isE] at h2
    simp only [List.map_cons,T.valu,sizes,List.length_cons,T.size];lia
theorem size_seqOf:∀ l:List T,(seqOf l).size≤sizes l + 1
  | []=>by simp [seqOf,T.size,sizes]
  | [t]=>by simp [seqOf,sizes]
  | t::u::r=>by simp [seqOf,T.size]
theorem mem_tw {α:Type} {p:α→Bool}:∀ {l:List α} {x:α},x∈l.takeWhile p→p x = true
  | [],_,h=>nomatch h
  | y::r,x,h=>by
    rw [List.takeWhile_cons] at h
    split at h
    · rename_i hp
      rcases List.mem_cons.mp h with rfl | h
      · exact hp
      · exact mem_tw h
    · cases h
theorem early_isE {items:List T}:∀ t∈early items,isE t = true:=fun t ht=>mem_tw ht
theorem takeWhile_take {α:Type} (p:α→Bool):∀ l:List α,l.takeWhile p = l.take (l.takeWhile p).length
  | []=>rfl
  | x::r=>by
    rw [List.takeWhile_cons]
    split
    · rw [List.length_cons,List.take_succ_cons,← takeWhile_take p r]
    · rfl
theorem early_len (items:List T):(early items).length≤items.length - 1:=by
  have h2:(early items).length≤items.dropLast.length:=(List.takeWhile_sublist _).length_le
  rwa [List.length_dropLast] at h2
theorem early_take (items:List T):early items = items.take (early items).length:=by
  have h1:early items = (items.dropLast).take (early items).length:=takeWhile_take isE items.dropLast
  rw [List.dropLast_eq_take,List.take_take,Nat.min_eq_left (early_len items)] at h1
  exact h1
theorem early_split (items:List T):early items ++ items.drop (early items).length = items:=by
  have h:=early_take items
  calc early items ++ items.drop (early items).length = items.take (early items).length ++ items.drop (early items).length:=by rw [← h]
    _ = items:=List.take_append_drop _ _
theorem sizes_sub:∀ {a b:List T},a.Sublist b→sizes a≤sizes b:=by
  intro a b h
  induction h with
  | slnil=>exact Nat.le_refl _
  | cons _ _ ih=>simp only [sizes];lia
  | cons_cons _ _ ih=>simp only [sizes];lia
theorem zip_snd {α β:Type}:∀ {a:List α} {b:List β},a.length = b.length→(a.zip b).map (·.2) = b
  | [],[],_=>rfl
  | _::a,_::b,h=>by simp [zip_snd (a:=a) (b:=b) (by simpa using h)]
theorem size_turnL (c:Int→Nat) (l:Int) (ps:List Int) (items xs:List T) (hl:ps.length = xs.length):(turnL c l ps items xs).size≤(T.call (.lam l ps (.seq items)) xs).size + 1:=by
  unfold turnL
  dsimp only
  split
  · lia
  · generalize htk:(early items).filter (tkn c (lateOf ps xs)) = tk
    generalize hrs:(early items).filter (fun t=>!tkn c (lateOf ps xs) t) = rs
    have h1:sizes tk + sizes rs = sizes (early items):=by rw [← htk,← hrs];exact sizes_filter _ _
    have h2:sizes (tk.map T.valu) + tk.length = sizes tk:=sizes_map_valu tk fun t ht=>by
      rw [← htk] at ht;exact early_isE t (List.mem_filter.mp ht).1
    have h3:sizes (early items) + sizes (items.drop (early items).length) = sizes items:=by
      rw [← sizes_append,early_split]
    have h4:=size_seqOf (rs ++ items.drop (early items).length)
    rw [sizes_append] at h4
    split
    · simp only [T.size,List.length_map];lia
    · have h5:((ps.zip xs).filter fun p=>!(tk.map T.num).contains p.1).length≤ps.length:=by
        refine Nat.le_trans (List.length_filter_le _ _) ?_
        rw [List.length_zip];lia
      have h6:sizes (((ps.zip xs).filter fun p=>!(tk.map T.num).contains p.1).map (·.2))≤sizes xs:=by
        have:=sizes_sub ((List.filter_sublist (l:=ps.zip xs) (p:=fun p=>!(tk.map T.num).contains p.1)).map (·.2))
        rw [zip_snd hl] at this
        exact this
      simp only [T.size,List.length_map];lia
theorem turn_ind {M:T→T→Prop} (c:Int→Nat) (h:∀ l ps items xs,ps.length = xs.length→M (.call (.lam l ps (.seq items)) xs) (turnL c l ps items xs)) (k:∀ t,M t t) (t:T):M t (turn c t):=by
  cases t with
  | call f xs =>
    cases f with
    | lam l ps b =>
      cases b with
      | seq items =>
        show M _ (if ps.length = xs.length then turnL c l ps items xs else .call (.lam l ps (.seq items)) xs)
        by_cases e:ps.length = xs.length
        · rw [if_pos e];exact h _ _ _ _ e
        · rw [if_neg e];exact k _
      | _=>exact k _
    | _=>exact k _
  | _=>exact k _
theorem size_turn (c:Int→Nat) (t:T):(turn c t).size≤t.size + 1:=turn_ind (M:=fun t u=>u.size≤t.size + 1) c (fun l ps items xs h=>size_turnL c l ps items xs h) (fun _=>Nat.le_succ _) t
mutual
theorem size_fixT (c:Int→Nat):∀ t:T,(fixT c t).size≤2 * t.size
  | .setl n v=>by have:=size_fixT c v;simp only [fixT,T.size];lia
  | .lam l ps b=>by have:=size_fixT c b;simp only [fixT,T.size];lia
  | .call f xs=>by
    have h1:=size_fixT c f
    have h2:=size_fixTs c xs
    have h3:=size_turn c (.call (fixT c f) (fixTs c xs))
    simp only [fixT]
    simp only [T.size] at h3 ⊢
    lia
  | .seq xs=>by have:=size_fixTs c xs;simp only [fixT,T.size];lia
  | .fix ns ls b=>by have h1:=size_fixTs c ls;have h2:=size_fixT c b;simp only [fixT,T.size];lia
  | .cint i=>by simp [fixT,T.size]
  | .cun=>by simp [fixT,T.size]
  | .loc n=>by simp [fixT,T.size]
  | .glob n=>by simp [fixT,T.size]
theorem size_fixTs (c:Int→Nat):∀ l:List T,sizes (fixTs c l)≤2 * sizes l
  | []=>by simp [fixTs,sizes]
  | t::r=>by have h1:=size_fixT c t;have h2:=size_fixTs c r;simp only [fixTs,sizes];lia
end
theorem deps_sub:∀ {a b:List T},a.Sublist b→deps a≤deps b:=by
  intro a b h
  induction h with
  | slnil=>exact Nat.le_refl _
  | cons _ _ ih=>simp only [deps];lia
  | cons_cons _ _ ih=>simp only [deps];lia
theorem deps_le {l:List T} {n:Nat} (h:∀ t∈l,t.dep≤n):deps l≤n:=by
  induction l with
  | nil=>exact Nat.zero_le _
  | cons t r ih =>
    have h1:=h t (.head _)
    have h2:=ih fun t ht=>h t (.tail _ ht)
    simp only [deps];lia
theorem dep_valu (t:T):t.valu.dep≤t.dep:=by cases t <;> simp [T.valu,T.dep]
theorem dep_seqOf:∀ l:List T,(seqOf l).dep≤deps l + 1
  | []=>by simp [seqOf,T.dep,deps]
  | [t]=>by simp [seqOf,deps]
  | t::u::r=>by simp [seqOf,T.dep]
theorem dep_turnL (c:Int→Nat) (l:Int) (ps:List Int) (items xs:List T) (hl:ps.length = xs.length):(turnL c l ps items xs).dep≤(T.call (.lam l ps (.seq items)) xs).dep + 1:=by
  unfold turnL
  dsimp only
  split
  · lia
  · generalize htk:(early items).filter (tkn c (lateOf ps xs)) = tk
    generalize hrs:(early items).filter (fun t=>!tkn c (lateOf ps xs) t) = rs
    have se:∀ t∈early items,t∈items:=fun t ht=>by
      have:=early_split items
      rw [← this];exact List.mem_append_left _ ht
    have h1:deps (tk.map T.valu)≤deps items:=deps_le fun t ht=>by
      refine ex1 (List.mem_map.mp ht) ?_;intro u hy2;refine an2 hy2 ?_;clear hy2;intro hu hx1
      symm at hx1;subst hx1
      rw [← htk] at hu
      exact Nat.le_trans (dep_valu u) (dep_mem (se u (List.mem_filter.mp hu).1))
    have h2:deps (rs ++ items.drop (early items).length)≤deps items:=deps_le fun t ht=>by
      rcases List.mem_append.mp ht with ht | ht
      · rw [← hrs] at ht;exact dep_mem (se t (List.mem_filter.mp ht).1)
      · exact dep_mem (List.mem_of_mem_drop ht)
    have h4:=dep_seqOf (rs ++ items.drop (early items).length)
    split
    · simp only [T.dep];lia
    · have h6:deps (((ps.zip xs).filter fun p=>!(tk.map T.num).contains p.1).map (·.2))≤deps xs:=by
        have:=deps_sub ((List.filter_sublist (l:=ps.zip xs) (p:=fun p=>!(tk.map T.num).contains p.1)).map (·.2))
        rw [zip_snd hl] at this
        exact this
      simp only [T.dep];lia
theorem dep_turn (c:Int→Nat) (t:T):(turn c t).dep≤t.dep + 1:=turn_ind (M:=fun t u=>u.dep≤t.dep + 1) c (fun l ps items xs h=>dep_turnL c l ps items xs h) (fun _=>Nat.le_succ _) t
mutual
theorem dep_fixT (c:Int→Nat):∀ t:T,(fixT c t).dep≤2 * t.dep
  | .setl n v=>by have:=dep_fixT c v;simp only [fixT,T.dep];lia
  | .lam l ps b=>by have:=dep_fixT c b;simp only [fixT,T.dep];lia
  | .call f xs=>by
    have h1:=dep_fixT c f
    have h2:=dep_fixTs c xs
    have h3:=dep_turn c (.call (fixT c f) (fixTs c xs))
    simp only [fixT]
    simp only [T.dep] at h3 ⊢
    lia
  | .seq xs=>by have:=dep_fixTs c xs;simp only [fixT,T.dep];lia
  | .fix ns ls b=>by have h1:=dep_fixTs c ls;have h2:=dep_fixT c b;simp only [fixT,T.dep];lia
  | .cint i=>by simp [fixT,T.dep]
  | .cun=>by simp [fixT,T.dep]
  | .loc n=>by simp [fixT,T.dep]
  | .glob n=>by simp [fixT,T.dep]
theorem dep_fixTs (c:Int→Nat):∀ l:List T,deps (fixTs c l)≤2 * deps l
  | []=>by simp [fixTs,deps]
  | t::r=>by have h1:=dep_fixT c t;have h2:=dep_fixTs c r;simp only [fixTs,deps];lia
end
end
section
open PySem.Calls
theorem bt_list:bootBuiltins (Str.ofString "list") = some (.type "list"):=by boot_by_name
theorem bt_ne_list:(Str.ofString "list")≠"__name__":=by decide
theorem bt_zip:bootBuiltins (Str.ofString "zip") = some (.type "zip"):=by boot_by_name
theorem bt_ne_zip:(Str.ofString "zip")≠"__name__":=by decide
theorem bt_abs:bootBuiltins (Str.ofString "abs") = some (.builtin "abs"):=by boot_by_name
theorem bt_ne_abs:(Str.ofString "abs")≠"__name__":=by decide
theorem bt_sum:bootBuiltins (Str.ofString "sum") = some (.builtin "sum"):=by boot_by_name
theorem bt_ne_sum:(Str.ofString "sum")≠"__name__":=by decide
section
variable {w:World} {c:Cx} {m:Str→Option Value} {own P:Led} {s:Shared} {E:Value→Shared→Prop} {Q:Value→Shared→Prop} {cn:Str} {a:Addr} {ccd:Value} {cl:List (Str × Addr)}
theorem cutN {α:Type} {ns:List (Str × NameKind)} {t:Sem α} {Q:α→Shared→Prop} (_:goodNs ns = true) (Mid:List (Str × NameKind)→α→Shared→Prop) (h1:∀ Q',ImpG (Mid ns) Q'→wpAny (model rw_pq1024_01.row.prog w) c.A t Q' E s) (h2:∀ v s',Mid ns v s'→Q v s'):wpAny (model rw_pq1024_01.row.prog w) c.A t Q E s :=
  wpAny_mono (h1 _ fun _ _ h=>h) h2 fun _ _ e=>e
structure OwnFlag:Prop where
  on:True
theorem nl_flag {vs:List Value} (_:OwnFlag) (S:St w c m own P s) (h:∀ l s',St w c m ((l,listOf vs.toArray 0)::own) P s'→Q (.ref l) s') (hsz:vs.length≤sizeLine) :
    wpAny (model rw_pq1024_01.row.prog w) c.A (newList vs) Q E s:=nl_own S h hsz
theorem ite_dt {b:Bool} {X Y:Prop} (hb:b = true) (h:X):if b = true then X else Y:=by rw [if_pos hb];exact h
theorem ite_df {b:Bool} {X Y:Prop} (hb:b = false) (h:Y):if b = true then X else Y:=by rw [if_neg (by rw [hb];decide)];exact h
theorem is_int_ref {i:Int} {t:Tok} {x:Addr} (h:Q (.bool false) s):wpAny (model rw_pq1024_01.row.prog w) c.A (compareOp .Is (.int i t) (.ref x)) Q E s:=wpAny_is_other rfl (by simp) h
theorem ne_int_ff {prog:Program} {A:Around} {a b:Int} {t u:Tok} (h:(a != b) = false) (hq:Q (.bool false) s):wpAny (model prog w) A (compareOp .NotEq (.int a t) (.int b u)) Q E s:=PyProof.Rows.ne_int (h ▸ hq)
theorem ne_int_tt {prog:Program} {A:Around} {a b:Int} {t u:Tok} (h:(a != b) = true) (hq:Q (.bool true) s):wpAny (model prog w) A (compareOp .NotEq (.int a t) (.int b u)) Q E s:=PyProof.Rows.ne_int (h ▸ hq)
theorem call3 {ns:List (Str × NameKind)} {mo:List (Str × Const)} {x:Str} {px pos:Pos} {fv:Value} {e1 e2 e3:Expr} (S:St w c m own P s) (g:goodNs ns = true) (e:nsIn (hd.heap_39 w.params) mainGlobals x = some (some fv)) (hkp:keepIn (hd.heap_39 w.params) fv = true) (hx:(x,NameKind.globalImplicit)∈ns)
    (h:wpAny (model rw_pq1024_01.row.prog w) c.A (eval e1 (envX cn (fnSc ns mo) c.L a ccd cl)) (fun v1 s1=>wpAny (model rw_pq1024_01.row.prog w) c.A (eval e2 (envX cn (fnSc ns mo) c.L a ccd cl)) (fun v2 s2=>wpAny (model rw_pq1024_01.row.prog w) c.A (eval e3 (envX cn (fnSc ns mo) c.L a ccd cl)) (fun v3 s3=>(hd.heap_39 w.params).In s3.heap∧wpAny (model rw_pq1024_01.row.prog w) c.A (call fv [v1,v2,v3]) Q E s3) E s2) E s1) E s)
    (he1:starEach [e1,e2,e3] (envX cn (fnSc ns mo) c.L a ccd cl) = (false,eval e1 (envX cn (fnSc ns mo) c.L a ccd cl))::starEach [e2,e3] (envX cn (fnSc ns mo) c.L a ccd cl)) (he2:starEach [e2,e3] (envX cn (fnSc ns mo) c.L a ccd cl) = (false,eval e2 (envX cn (fnSc ns mo) c.L a ccd cl))::starEach [e3] (envX cn (fnSc ns mo) c.L a ccd cl))
    (he3:starEach [e3] (envX cn (fnSc ns mo) c.L a ccd cl) = [(false,eval e3 (envX cn (fnSc ns mo) c.L a ccd cl))]) :
    wpAny (model rw_pq1024_01.row.prog w) c.A (eval (.Call (.Name x px) [e1,e2,e3] [] pos) (envX cn (fnSc ns mo) c.L a ccd cl)) Q E s:=by
  refine Call_ (ev_glob S g e hx ?_)
  refine callWith_K S.X hkp ?_ he1 (by rw [he2,he3];rfl)
  exact args_cons (wpAny_mono h (fun v s1 h1=>args_cons (wpAny_mono h1 (fun v2 s2 h2=>args_cons (wpAny_mono h2 (fun v3 s3 h3=>args_nil h3) fun _ _ e=>e) he3) fun _ _ e=>e) he2) fun _ _ e=>e) he1
theorem callT2 {ns:List (Str × NameKind)} {mo:List (Str × Const)} {x:Str} {px pos:Pos} {T:String} {e1 e2:Expr} (S:St w c m own P s) (g:goodNs ns = true) (e:nsIn (hd.heap_39 w.params) mainGlobals x = some none) (hv:bootBuiltins x = some (.type T)) (hn:x≠"__name__") (hx:(x,NameKind.globalImplicit)∈ns)
    (h:wpAny (model rw_pq1024_01.row.prog w) c.A (eval e1 (envX cn (fnSc ns mo) c.L a ccd cl)) (fun v1 s1=>wpAny (model rw_pq1024_01.row.prog w) c.A (eval e2 (envX cn (fnSc ns mo) c.L a ccd cl)) (fun v2 s2=>wpAny (model rw_pq1024_01.row.prog w) c.A (call (.type T) [v1,v2]) Q E s2) E s1) E s)
    (he1:starEach [e1,e2] (envX cn (fnSc ns mo) c.L a ccd cl) = (false,eval e1 (envX cn (fnSc ns mo) c.L a ccd cl))::starEach [e2] (envX cn (fnSc ns mo) c.L a ccd cl)) (he2:starEach [e2] (envX cn (fnSc ns mo) c.L a ccd cl) = [(false,eval e2 (envX cn (fnSc ns mo) c.L a ccd cl))]) :
    wpAny (model rw_pq1024_01.row.prog w) c.A (eval (.Call (.Name x px) [e1,e2] [] pos) (envX cn (fnSc ns mo) c.L a ccd cl)) Q E s :=
  Call_ (ev_bi S g e hv hn hx (PyProof.Rows.callWith_type1 (args_cons (wpAny_mono h (fun v s1 h1=>args_cons (wpAny_mono h1 (fun v2 s2 h2=>args_nil h2) fun _ _ e=>e) he2) fun _ _ e=>e) he1) he1 (by rw [he2];rfl)))
end
theorem isLC_k (v:T):isLC v = ([7,0]:List Int).any (· == v.kind):=by
  cases v <;> rfl
theorem asg_pad:∀ (ns:List (Str × NameKind)) (vs:List (Option Value)) (k:Nat),asg ns vs = asg ns (vs ++ List.replicate k none)
  | [],_,_=>by funext y;cases ‹List (Option Value)› <;> simp [asg]
  | n::ns,[],0=>rfl
  | n::ns,[],k + 1=>by
    funext y
    have:=congrFun (asg_pad ns [] k) y
    rw [List.nil_append,asg_nil] at this
    rw [List.nil_append,List.replicate_succ,asg_nil,asg,← this]
    split <;> rfl
  | n::ns,v::vs,k=>by
    funext y
    rw [List.cons_append,asg,asg,← asg_pad ns vs k]
theorem St.pad {w:World} {c:Cx} {ns:List (Str × NameKind)} {vs:List (Option Value)} {own P:Led} {s:Shared} (k:Nat) (S:St w c (asg ns vs) own P s):St w c (asg ns (vs ++ List.replicate k none)) own P s:=by
  rw [← asg_pad];exact S
theorem natbeq (a b:Nat):(((a:Nat):Int) == ((b:Nat):Int)) = (a == b):=by
  rw [Bool.eq_iff_iff,beq_iff_eq,beq_iff_eq];exact Int.ofNat_inj
theorem lateOf_snoc {a:List Int} {b:List T} {n:Int} {t:T} (h:a.length = b.length):lateOf (a ++ [n]) (b ++ [t]) = lateOf a b ++ (if t.isUn then [n] else []):=by
  unfold lateOf
  rw [List.zip_append h,List.filter_append,List.map_append]
  cases hu:t.isUn <;> simp [hu]
noncomputable def isLet:T→Bool
  | .call (.lam _ ps _) xs=>ps.length == xs.length
  | _=>false
section
variable {w:World} {P:Led}
theorem is_un {a:Addr} {t:T} (h:Nd w P a t):Pure w 2 P (call (.ref 456) [.ref a]) fun _ r=>r = .bool t.isUn:=by
  intro c m own s Q E S hdp hu ret
  have X:=S.X
  refine wpAny_call ?_
  (refine enter (K:=hd.heap_39 _) rfl ‹_› (by k_is) (by k_is) (by first | exact bl1 ‹_› | omega) (by exact BindsTo.of_eq rfl) (by exact rfl) (by kernel_rfl) ?_ ‹_›)
  clear ret S
  intro c' s' gN hd' hu' S'
  dsimp only [List.map] at S'
  cases t
  · with_reducible (refine nameQ ?_;intro _ _;refine eN ?_;intro _ _ _;refine wpAny_Return_some ?_;refine BoolOp_and ?_;refine wpAny_Compare1 ?_ (by k_dflt rfl);refine Attribute_any_ ?_ (by k_dflt rfl);refine ev_lv ‹_› ‹_› LocV.a0 ?_;refine at_kind ‹_› ‹_› (by k_places) (by first | assumption | exact rfl) ?_;intro _ _ _;refine ev_glob ‹_› ‹_› (g_CONST _) mm1 ?_;refine eq_int_tt (by k_dflt rfl) ?_;refine wpAny_truthy_bool ?_;refine ite_tt ?_;refine BoolOp_one ?_;refine wpAny_Compare1 ?_ (by k_dflt rfl);refine Attribute_any_ ?_ (by k_dflt rfl);refine ev_lv ‹_› ‹_› LocV.a0 ?_;refine at_cint ‹_› ‹_› (by k_places) ?_;intro _ _ _;refine ev_glob ‹_› ‹_› (g_UNASSIGNED _) mm2 ?_;refine is_int_ref ?_;refine (by assumption:Abr _ _) _ _ (by k_dflt rfl) ?_;refine (by assumption:Imp _ _) _ _ ?_)
    exact Ends.of (own':=[]) (P':=P) (St.sub ‹_› (by k_places)) (fun _ h=>h) rfl
  · with_reducible (refine nameQ ?_;intro _ _;refine eN ?_;intro _ _ _;refine wpAny_Return_some ?_;refine BoolOp_and ?_;refine wpAny_Compare1 ?_ (by k_dflt rfl);refine Attribute_any_ ?_ (by k_dflt rfl);refine ev_lv ‹_› ‹_› LocV.a0 ?_;refine at_kind ‹_› ‹_› (by k_places) (by first | assumption | exact rfl) ?_;intro _ _ _;refine ev_glob ‹_› ‹_› (g_CONST _) mm1 ?_;refine eq_int_tt (by k_dflt rfl) ?_;refine wpAny_truthy_bool ?_;refine ite_tt ?_;refine BoolOp_one ?_;refine wpAny_Compare1 ?_ (by k_dflt rfl);refine Attribute_any_ ?_ (by k_dflt rfl);refine ev_lv ‹_› ‹_› LocV.a0 ?_;refine at_cun ‹_› ‹_› (by k_places) ?_;intro _ _;refine ev_glob ‹_› ‹_› (g_UNASSIGNED _) mm2 ?_;refine wpAny_is_ref_self ?_;refine (by assumption:Abr _ _) _ _ (by k_dflt rfl) ?_;refine (by assumption:Imp _ _) _ _ ?_)
    exact Ends.of (own':=[]) (P':=P) (St.sub ‹_› (by k_places)) (fun _ h=>h) rfl
  · with_reducible (refine nameQ ?_;intro _ _;refine eN ?_;intro _ _ _;refine wpAny_Return_some ?_;refine BoolOp_and ?_;refine wpAny_Compare1 ?_ (by k_dflt rfl);refine Attribute_any_ ?_ (by k_dflt rfl);refine ev_lv ‹_› ‹_› LocV.a0 ?_;refine at_kind ‹_› ‹_› (by k_places) (by first | assumption | exact rfl) ?_;intro _ _ _;refine ev_glob ‹_› ‹_› (g_CONST _) mm1 ?_;refine eq_int_ff (by k_dflt rfl) ?_;refine wpAny_truthy_bool ?_;refine ite_ff ?_;refine (by assumption:Abr _ _) _ _ (by k_dflt rfl) ?_;refine (by assumption:Imp _ _) _ _ ?_)
    exact Ends.of (own':=[]) (P':=P) (St.sub ‹_› (by k_places)) (fun _ h=>h) rfl
  · with_reducible (refine nameQ ?_;intro _ _;refine eN ?_;intro _ _ _;refine wpAny_Return_some ?_;refine BoolOp_and ?_;refine wpAny_Compare1 ?_ (by k_dflt rfl);refine Attribute_any_ ?_ (by k_dflt rfl);refine ev_lv ‹_› ‹_› LocV.a0 ?_;refine at_kind ‹_› ‹_› (by k_places) (by first | assumption | exact rfl) ?_;intro _ _ _;refine ev_glob ‹_› ‹_› (g_CONST _) mm1 ?_;refine eq_int_ff (by k_dflt rfl) ?_;refine wpAny_truthy_bool ?_;refine ite_ff ?_;refine (by assumption:Abr _ _) _ _ (by k_dflt rfl) ?_;refine (by assumption:Imp _ _) _ _ ?_)
    exact Ends.of (own':=[]) (P':=P) (St.sub ‹_› (by k_places)) (fun _ h=>h) rfl
  · with_reducible (refine nameQ ?_;intro _ _;refine eN ?_;intro _ _ _;refine wpAny_Return_some ?_;refine BoolOp_and ?_;refine wpAny_Compare1 ?_ (by k_dflt rfl);refine Attribute_any_ ?_ (by k_dflt rfl);refine ev_lv ‹_› ‹_› LocV.a0 ?_;refine at_kind ‹_› ‹_› (by k_places) (by first | assumption | exact rfl) ?_;intro _ _ _;refine ev_glob ‹_› ‹_› (g_CONST _) mm1 ?_;refine eq_int_ff (by k_dflt rfl) ?_;refine wpAny_truthy_bool ?_;refine ite_ff ?_;refine (by assumption:Abr _ _) _ _ (by k_dflt rfl) ?_;refine (by assumption:Imp _ _) _ _ ?_)
    exact Ends.of (own':=[]) (P':=P) (St.sub ‹_› (by k_places)) (fun _ h=>h) rfl
  · with_reducible (refine nameQ ?_;intro _ _;refine eN ?_;intro _ _ _;refine wpAny_Return_some ?_;refine BoolOp_and ?_;refine wpAny_Compare1 ?_ (by k_dflt rfl);refine Attribute_any_ ?_ (by k_dflt rfl);refine ev_lv ‹_› ‹_› LocV.a0 ?_;refine at_kind ‹_› ‹_› (by k_places) (by first | assumption | exact rfl) ?_;intro _ _ _;refine ev_glob ‹_› ‹_› (g_CONST _) mm1 ?_;refine eq_int_ff (by k_dflt rfl) ?_;refine wpAny_truthy_bool ?_;refine ite_ff ?_;refine (by assumption:Abr _ _) _ _ (by k_dflt rfl) ?_;refine (by assumption:Imp _ _) _ _ ?_)
    exact Ends.of (own':=[]) (P':=P) (St.sub ‹_› (by k_places)) (fun _ h=>h) rfl
  · with_reducible (refine nameQ ?_;intro _ _;refine eN ?_;intro _ _ _;refine wpAny_Return_some ?_;refine BoolOp_and ?_;refine wpAny_Compare1 ?_ (by k_dflt rfl);refine Attribute_any_ ?_ (by k_dflt rfl);refine ev_lv ‹_› ‹_› LocV.a0 ?_;refine at_kind ‹_› ‹_› (by k_places) (by first | assumption | exact rfl) ?_;intro _ _ _;refine ev_glob ‹_› ‹_› (g_CONST _) mm1 ?_;refine eq_int_ff (by k_dflt rfl) ?_;refine wpAny_truthy_bool ?_;refine ite_ff ?_;refine (by assumption:Abr _ _) _ _ (by k_dflt rfl) ?_;refine (by assumption:Imp _ _) _ _ ?_)
    exact Ends.of (own':=[]) (P':=P) (St.sub ‹_› (by k_places)) (fun _ h=>h) rfl
  · with_reducible (refine nameQ ?_;intro _ _;refine eN ?_;intro _ _ _;refine wpAny_Return_some ?_;refine BoolOp_and ?_;refine wpAny_Compare1 ?_ (by k_dflt rfl);refine Attribute_any_ ?_ (by k_dflt rfl);refine ev_lv ‹_› ‹_› LocV.a0 ?_;refine at_kind ‹_› ‹_› (by k_places) (by first | assumption | exact rfl) ?_;intro _ _ _;refine ev_glob ‹_› ‹_› (g_CONST _) mm1 ?_;refine eq_int_ff (by k_dflt rfl) ?_;refine wpAny_truthy_bool ?_;refine ite_ff ?_;refine (by assumption:Abr _ _) _ _ (by k_dflt rfl) ?_;refine (by assumption:Imp _ _) _ _ ?_)
    exact Ends.of (own':=[]) (P':=P) (St.sub ‹_› (by k_places)) (fun _ h=>h) rfl
  · with_reducible (refine nameQ ?_;intro _ _;refine eN ?_;intro _ _ _;refine wpAny_Return_some ?_;refine BoolOp_and ?_;refine wpAny_Compare1 ?_ (by k_dflt rfl);refine Attribute_any_ ?_ (by k_dflt rfl);refine ev_lv ‹_› ‹_› LocV.a0 ?_;refine at_kind ‹_› ‹_› (by k_places) (by first | assumption | exact rfl) ?_;intro _ _ _;refine ev_glob ‹_› ‹_› (g_CONST _) mm1 ?_;refine eq_int_ff (by k_dflt rfl) ?_;refine wpAny_truthy_bool ?_;refine ite_ff ?_;refine (by assumption:Abr _ _) _ _ (by k_dflt rfl) ?_;refine (by assumption:Imp _ _) _ _ ?_)
    exact Ends.of (own':=[]) (P':=P) (St.sub ‹_› (by k_places)) (fun _ h=>h) rfl
theorem is_let {a:Addr} {t:T} (h:Nd w P a t) (hz:t.size≤4000):Pure w 2 P (call (.ref 313) [.ref a]) fun _ r=>r = .bool (isLet t):=by
  intro c m own s Q E S hdp hu ret
  have X:=S.X
  refine wpAny_call ?_
  (refine enter (K:=hd.heap_39 _) rfl ‹_› (by k_is) (by k_is) (by first | exact bl1 ‹_› | omega) (by exact BindsTo.of_eq rfl) (by exact rfl) (by kernel_rfl) ?_ ‹_›)
  clear ret S
  intro c' s' gN hd' hu' S'
  dsimp only [List.map] at S'
  cases t
  case call f xs =>
    cases f
    case lam l ps b =>
      have h1:ps.length≤1000000:=by simp only [T.size] at hz;lia
      have h2:xs.length≤1000000:=by have:=len_sizes xs;simp only [T.size] at hz;lia
      clear hz
      with_reducible (refine nameQ ?_;intro _ _;refine eN ?_;intro _ _ _;refine If_N ?_;intro _ _;refine isTrue_or ?_;refine tkN (r:=false) ‹_› ‹_› LocV.a0 ‹_› (by k_places) (g_CALL _) mm1 (by k_dflt rfl) (by k_dflt rfl) ?_;intro _ _;refine ite_ff ?_;refine isTrue_or ?_;refine wpAny_isTrue_Compare1 ?_ (by k_dflt rfl);refine Attribute_any_ ?_ (by k_dflt rfl);refine Attribute_any_ ?_ (by k_dflt rfl);refine ev_lv ‹_› ‹_› LocV.a0 ?_;refine at_call_operator ‹_› ‹_› (by k_places) ?_;intro _ _ _ _;refine at_kind ‹_› ‹_› (by k_places) (by first | assumption | exact rfl) ?_;intro _ _ _;refine ev_glob ‹_› ‹_› (g_LAMBDA _) mm2 ?_;refine ne_int_ff (by k_dflt rfl) ?_;refine wpAny_truthy_bool ?_;refine ite_ff ?_;refine isTrue_or_nil ?_;refine (by assumption:ImpG _ _) _ _ ?_;refine ite_ff ?_;refine wpAny_execs_nil ?_;refine (by assumption:Nxt _ _ _ _ _ _ _) _ ?_;refine eI ‹_› ?_;intro _ _ _;refine wpAny_Return_some ?_;refine BoolOp_and ?_;refine wpAny_Compare1 ?_ (by k_dflt rfl);refine Attribute_any_ ?_ (by k_dflt rfl);refine Attribute_any_ ?_ (by k_dflt rfl);refine ev_lv ‹_› ‹_› LocV.a0 ?_;refine at_call_operator ‹_› ‹_› (by k_places) ?_;intro _ _ _ _;refine at_lam_rest ‹_› ‹_› (by k_places) ?_;intro _ _ _;refine ev_int ‹_› ?_;intro _ _ _;refine PySem.P.lt_int ?_;refine wpAny_truthy_bool ?_;refine ite_dt (by k_dflt rfl) ?_;refine BoolOp_one ?_;refine wpAny_Compare1 ?_ (by k_dflt rfl);refine callB1 ‹_› ‹_› (gn_len _) bt_len bt_ne_len mm3 ?_ (by k_dflt rfl);refine Attribute_any_ ?_ (by k_dflt rfl);refine Attribute_any_ ?_ (by k_dflt rfl);refine ev_lv ‹_› ‹_› LocV.a0 ?_;refine at_call_operator ‹_› ‹_› (by k_places) ?_;intro _ _ _ _;refine at_lam_params ‹_› ‹_› (by k_places) ?_;intro _ _ _ _ _ _ _)
      refine len_P ‹_› ‹_› (by rw [IntsAre.length ‹_›];exact h1) ?_
      intro s1 tk1 S1
      with_reducible (refine callB1 ‹_› ‹_› (gn_len _) bt_len bt_ne_len mm3 ?_ (by k_dflt rfl);refine Attribute_any_ ?_ (by k_dflt rfl);refine ev_lv ‹_› ‹_› LocV.a0 ?_;refine at_call_operands ‹_› ‹_› (by k_places) ?_;intro _ _ _ _ _ _ _)
      refine len_P ‹_› ‹_› (by rw [Nds.length ‹_›];exact h2) ?_
      intro s2 tk2 S2
      with_reducible (refine eq_int ?_;refine (by assumption:Abr _ _) _ _ (by k_dflt rfl) ?_;refine (by assumption:Imp _ _) _ _ ?_)
      refine Ends.of (own':=[]) (P':=P) S2 (fun _ h=>h) ?_
      show Value.bool _ = Value.bool (ps.length == xs.length)
      rw [IntsAre.length (ns:=ps) ‹_›,Nds.length (ts:=xs) ‹_›,natbeq]
    · with_reducible (refine nameQ ?_;intro _ _;refine eN ?_;intro _ _ _;refine If_N ?_;intro _ _;refine isTrue_or ?_;refine tkN (r:=false) ‹_› ‹_› LocV.a0 ‹_› (by k_places) (g_CALL _) mm1 (by k_dflt rfl) (by k_dflt rfl) ?_;intro _ _;refine ite_ff ?_;refine isTrue_or ?_;refine wpAny_isTrue_Compare1 ?_ (by k_dflt rfl);refine Attribute_any_ ?_ (by k_dflt rfl);refine Attribute_any_ ?_ (by k_dflt rfl);refine ev_lv ‹_› ‹_› LocV.a0 ?_;refine at_call_operator ‹_› ‹_› (by k_places) ?_;intro _ _ _ _;refine at_kind ‹_› ‹_› (by k_places) (by first | assumption | exact rfl) ?_;intro _ _ _;refine ev_glob ‹_› ‹_› (g_LAMBDA _) mm2 ?_;refine ne_int_tt (by k_dflt rfl) ?_;refine wpAny_truthy_bool ?_;refine ite_tt ?_;refine (by assumption:ImpG _ _) _ _ ?_;refine ite_tt ?_;refine eA ‹_› ?_;intro _ _ _;refine wpAny_Return_some ?_;refine PyProof.Rows.Constant_bool ?_;refine (by assumption:Abr _ _) _ _ (by k_dflt rfl) ?_;refine (by assumption:Abr _ _) _ _ (by k_dflt rfl) ?_;refine (by assumption:Imp _ _) _ _ ?_)
      exact Ends.of (own':=[]) (P':=P) (St.sub ‹_› (by k_places)) (fun _ h=>h) rfl
    · with_reducible (refine nameQ ?_;intro _ _;refine eN ?_;intro _ _ _;refine If_N ?_;intro _ _;refine isTrue_or ?_;refine tkN (r:=false) ‹_› ‹_› LocV.a0 ‹_› (by k_places) (g_CALL _) mm1 (by k_dflt rfl) (by k_dflt rfl) ?_;intro _ _;refine ite_ff ?_;refine isTrue_or ?_;refine wpAny_isTrue_Compare1 ?_ (by k_dflt rfl);refine Attribute_any_ ?_ (by k_dflt rfl);refine Attribute_any_ ?_ (by k_dflt rfl);refine ev_lv ‹_› ‹_› LocV.a0 ?_;refine at_call_operator ‹_› ‹_› (by k_places) ?_;intro _ _ _ _;refine at_kind ‹_› ‹_› (by k_places) (by first | assumption | exact rfl) ?_;intro _ _ _;refine ev_glob ‹_› ‹_› (g_LAMBDA _) mm2 ?_;refine ne_int_tt (by k_dflt rfl) ?_;refine wpAny_truthy_bool ?_;refine ite_tt ?_;refine (by assumption:ImpG _ _) _ _ ?_;refine ite_tt ?_;refine eA ‹_› ?_;intro _ _ _;refine wpAny_Return_some ?_;refine PyProof.Rows.Constant_bool ?_;refine (by assumption:Abr _ _) _ _ (by k_dflt rfl) ?_;refine (by assumption:Abr _ _) _ _ (by k_dflt rfl) ?_;refine (by assumption:Imp _ _) _ _ ?_)
      exact Ends.of (own':=[]) (P':=P) (St.sub ‹_› (by k_places)) (fun _ h=>h) rfl
    · with_reducible (refine nameQ ?_;intro _ _;refine eN ?_;intro _ _ _;refine If_N ?_;intro _ _;refine isTrue_or ?_;refine tkN (r:=false) ‹_› ‹_› LocV.a0 ‹_› (by k_places) (g_CALL _) mm1 (by k_dflt rfl) (by k_dflt rfl) ?_;intro _ _;refine ite_ff ?_;refine isTrue_or ?_;refine wpAny_isTrue_Compare1 ?_ (by k_dflt rfl);refine Attribute_any_ ?_ (by k_dflt rfl);refine Attribute_any_ ?_ (by k_dflt rfl);refine ev_lv ‹_› ‹_› LocV.a0 ?_;refine at_call_operator ‹_› ‹_› (by k_places) ?_;intro _ _ _ _;refine at_kind ‹_› ‹_› (by k_places) (by first | assumption | exact rfl) ?_;intro _ _ _;refine ev_glob ‹_› ‹_› (g_LAMBDA _) mm2 ?_;refine ne_int_tt (by k_dflt rfl) ?_;refine wpAny_truthy_bool ?_;refine ite_tt ?_;refine (by assumption:ImpG _ _) _ _ ?_;refine ite_tt ?_;refine eA ‹_› ?_;intro _ _ _;refine wpAny_Return_some ?_;refine PyProof.Rows.Constant_bool ?_;refine (by assumption:Abr _ _) _ _ (by k_dflt rfl) ?_;refine (by assumption:Abr _ _) _ _ (by k_dflt rfl) ?_;refine (by assumption:Imp _ _) _ _ ?_)
      exact Ends.of (own':=[]) (P':=P) (St.sub ‹_› (by k_places)) (fun _ h=>h) rfl
    · with_reducible (refine nameQ ?_;intro _ _;refine eN ?_;intro _ _ _;refine If_N ?_;intro _ _;refine isTrue_or ?_;refine tkN (r:=false) ‹_› ‹_› LocV.a0 ‹_› (by k_places) (g_CALL _) mm1 (by k_dflt rfl) (by k_dflt rfl) ?_;intro _ _;refine ite_ff ?_;refine isTrue_or ?_;refine wpAny_isTrue_Compare1 ?_ (by k_dflt rfl);refine Attribute_any_ ?_ (by k_dflt rfl);refine Attribute_any_ ?_ (by k_dflt rfl);refine ev_lv ‹_› ‹_› LocV.a0 ?_;refine at_call_operator ‹_› ‹_› (by k_places) ?_;intro _ _ _ _;refine at_kind ‹_› ‹_› (by k_places) (by first | assumption | exact rfl) ?_;intro _ _ _;refine ev_glob ‹_› ‹_› (g_LAMBDA _) mm2 ?_;refine ne_int_tt (by k_dflt rfl) ?_;refine wpAny_truthy_bool ?_;refine ite_tt ?_;refine (by assumption:ImpG _ _) _ _ ?_;refine ite_tt ?_;refine eA ‹_› ?_;intro _ _ _;refine wpAny_Return_some ?_;refine PyProof.Rows.Constant_bool ?_;refine (by assumption:Abr _ _) _ _ (by k_dflt rfl) ?_;refine (by assumption:Abr _ _) _ _ (by k_dflt rfl) ?_;refine (by assumption:Imp _ _) _ _ ?_)
      exact Ends.of (own':=[]) (P':=P) (St.sub ‹_› (by k_places)) (fun _ h=>h) rfl
    · with_reducible (refine nameQ ?_;intro _ _;refine eN ?_;intro _ _ _;refine If_N ?_;intro _ _;refine isTrue_or ?_;refine tkN (r:=false) ‹_› ‹_› LocV.a0 ‹_› (by k_places) (g_CALL _) mm1 (by k_dflt rfl) (by k_dflt rfl) ?_;intro _ _;refine ite_ff ?_;refine isTrue_or ?_;refine wpAny_isTrue_Compare1 ?_ (by k_dflt rfl);refine Attribute_any_ ?_ (by k_dflt rfl);refine Attribute_any_ ?_ (by k_dflt rfl);refine ev_lv ‹_› ‹_› LocV.a0 ?_;refine at_call_operator ‹_› ‹_› (by k_places) ?_;intro _ _ _ _;refine at_kind ‹_› ‹_› (by k_places) (by first | assumption | exact rfl) ?_;intro _ _ _;refine ev_glob ‹_› ‹_› (g_LAMBDA _) mm2 ?_;refine ne_int_tt (by k_dflt rfl) ?_;refine wpAny_truthy_bool ?_;refine ite_tt ?_;refine (by assumption:ImpG _ _) _ _ ?_;refine ite_tt ?_;refine eA ‹_› ?_;intro _ _ _;refine wpAny_Return_some ?_;refine PyProof.Rows.Constant_bool ?_;refine (by assumption:Abr _ _) _ _ (by k_dflt rfl) ?_;refine (by assumption:Abr _ _) _ _ (by k_dflt rfl) ?_;refine (by assumption:Imp _ _) _ _ ?_)
      exact Ends.of (own':=[]) (P':=P) (St.sub ‹_› (by k_places)) (fun _ h=>h) rfl
    · with_reducible (refine nameQ ?_;intro _ _;refine eN ?_;intro _ _ _;refine If_N ?_;intro _ _;refine isTrue_or ?_;refine tkN (r:=false) ‹_› ‹_› LocV.a0 ‹_› (by k_places) (g_CALL _) mm1 (by k_dflt rfl) (by k_dflt rfl) ?_;intro _ _;refine ite_ff ?_;refine isTrue_or ?_;refine wpAny_isTrue_Compare1 ?_ (by k_dflt rfl);refine Attribute_any_ ?_ (by k_dflt rfl);refine Attribute_any_ ?_ (by k_dflt rfl);refine ev_lv ‹_› ‹_› LocV.a0 ?_;refine at_call_operator ‹_› ‹_› (by k_places) ?_;intro _ _ _ _;refine at_kind ‹_› ‹_› (by k_places) (by first | assumption | exact rfl) ?_;intro _ _ _;refine ev_glob ‹_› ‹_› (g_LAMBDA _) mm2 ?_;refine ne_int_tt (by k_dflt rfl) ?_;refine wpAny_truthy_bool ?_;refine ite_tt ?_;refine (by assumption:ImpG _ _) _ _ ?_;refine ite_tt ?_;refine eA ‹_› ?_;intro _ _ _;refine wpAny_Return_some ?_;refine PyProof.Rows.Constant_bool ?_;refine (by assumption:Abr _ _) _ _ (by k_dflt rfl) ?_;refine (by assumption:Abr _ _) _ _ (by k_dflt rfl) ?_;refine (by assumption:Imp _ _) _ _ ?_)
      exact Ends.of (own':=[]) (P':=P) (St.sub ‹_› (by k_places)) (fun _ h=>h) rfl
    · with_reducible (refine nameQ ?_;intro _ _;refine eN ?_;intro _ _ _;refine If_N ?_;intro _ _;refine isTrue_or ?_;refine tkN (r:=false) ‹_› ‹_› LocV.a0 ‹_› (by k_places) (g_CALL _) mm1 (by k_dflt rfl) (by k_dflt rfl) ?_;intro _ _;refine ite_ff ?_;refine isTrue_or ?_;refine wpAny_isTrue_Compare1 ?_ (by k_dflt rfl);refine Attribute_any_ ?_ (by k_dflt rfl);refine Attribute_any_ ?_ (by k_dflt rfl);refine ev_lv ‹_› ‹_› LocV.a0 ?_;refine at_call_operator ‹_› ‹_› (by k_places) ?_;intro _ _ _ _;refine at_kind ‹_› ‹_› (by k_places) (by first | assumption | exact rfl) ?_;intro _ _ _;refine ev_glob ‹_› ‹_› (g_LAMBDA _) mm2 ?_;refine ne_int_tt (by k_dflt rfl) ?_;refine wpAny_truthy_bool ?_;refine ite_tt ?_;refine (by assumption:ImpG _ _) _ _ ?_;refine ite_tt ?_;refine eA ‹_› ?_;intro _ _ _;refine wpAny_Return_some ?_;refine PyProof.Rows.Constant_bool ?_;refine (by assumption:Abr _ _) _ _ (by k_dflt rfl) ?_;refine (by assumption:Abr _ _) _ _ (by k_dflt rfl) ?_;refine (by assumption:Imp _ _) _ _ ?_)
      exact Ends.of (own':=[]) (P':=P) (St.sub ‹_› (by k_places)) (fun _ h=>h) rfl
    · with_reducible (refine nameQ ?_;intro _ _;refine eN ?_;intro _ _ _;refine If_N ?_;intro _ _;refine isTrue_or ?_;refine tkN (r:=false) ‹_› ‹_› LocV.a0 ‹_› (by k_places) (g_CALL _) mm1 (by k_dflt rfl) (by k_dflt rfl) ?_;intro _ _;refine ite_ff ?_;refine isTrue_or ?_;refine wpAny_isTrue_Compare1 ?_ (by k_dflt rfl);refine Attribute_any_ ?_ (by k_dflt rfl);refine Attribute_any_ ?_ (by k_dflt rfl);refine ev_lv ‹_› ‹_› LocV.a0 ?_;refine at_call_operator ‹_› ‹_› (by k_places) ?_;intro _ _ _ _;refine at_kind ‹_› ‹_› (by k_places) (by first | assumption | exact rfl) ?_;intro _ _ _;refine ev_glob ‹_› ‹_› (g_LAMBDA _) mm2 ?_;refine ne_int_tt (by k_dflt rfl) ?_;refine wpAny_truthy_bool ?_;refine ite_tt ?_;refine (by assumption:ImpG _ _) _ _ ?_;refine ite_tt ?_;refine eA ‹_› ?_;intro _ _ _;refine wpAny_Return_some ?_;refine PyProof.Rows.Constant_bool ?_;refine (by assumption:Abr _ _) _ _ (by k_dflt rfl) ?_;refine (by assumption:Abr _ _) _ _ (by k_dflt rfl) ?_;refine (by assumption:Imp _ _) _ _ ?_)
      exact Ends.of (own':=[]) (P':=P) (St.sub ‹_› (by k_places)) (fun _ h=>h) rfl
  · with_reducible (refine nameQ ?_;intro _ _;refine eN ?_;intro _ _ _;refine If_N ?_;intro _ _;refine isTrue_or ?_;refine tkN (r:=true) ‹_› ‹_› LocV.a0 ‹_› (by k_places) (g_CALL _) mm1 (by k_dflt rfl) (by k_dflt rfl) ?_;intro _ _;refine ite_tt ?_;refine (by assumption:ImpG _ _) _ _ ?_;refine ite_tt ?_;refine eA ‹_› ?_;intro _ _ _;refine wpAny_Return_some ?_;refine PyProof.Rows.Constant_bool ?_;refine (by assumption:Abr _ _) _ _ (by k_dflt rfl) ?_;refine (by assumption:Abr _ _) _ _ (by k_dflt rfl) ?_;refine (by assumption:Imp _ _) _ _ ?_)
    exact Ends.of (own':=[]) (P':=P) (St.sub ‹_› (by k_places)) (fun _ h=>h) rfl
  · with_reducible (refine nameQ ?_;intro _ _;refine eN ?_;intro _ _ _;refine If_N ?_;intro _ _;refine isTrue_or ?_;refine tkN (r:=true) ‹_› ‹_› LocV.a0 ‹_› (by k_places) (g_CALL _) mm1 (by k_dflt rfl) (by k_dflt rfl) ?_;intro _ _;refine ite_tt ?_;refine (by assumption:ImpG _ _) _ _ ?_;refine ite_tt ?_;refine eA ‹_› ?_;intro _ _ _;refine wpAny_Return_some ?_;refine PyProof.Rows.Constant_bool ?_;refine (by assumption:Abr _ _) _ _ (by k_dflt rfl) ?_;refine (by assumption:Abr _ _) _ _ (by k_dflt rfl) ?_;refine (by assumption:Imp _ _) _ _ ?_)
    exact Ends.of (own':=[]) (P':=P) (St.sub ‹_› (by k_places)) (fun _ h=>h) rfl
  · with_reducible (refine nameQ ?_;intro _ _;refine eN ?_;intro _ _ _;refine If_N ?_;intro _ _;refine isTrue_or ?_;refine tkN (r:=true) ‹_› ‹_› LocV.a0 ‹_› (by k_places) (g_CALL _) mm1 (by k_dflt rfl) (by k_dflt rfl) ?_;intro _ _;refine ite_tt ?_;refine (by assumption:ImpG _ _) _ _ ?_;refine ite_tt ?_;refine eA ‹_› ?_;intro _ _ _;refine wpAny_Return_some ?_;refine PyProof.Rows.Constant_bool ?_;refine (by assumption:Abr _ _) _ _ (by k_dflt rfl) ?_;refine (by assumption:Abr _ _) _ _ (by k_dflt rfl) ?_;refine (by assumption:Imp _ _) _ _ ?_)
    exact Ends.of (own':=[]) (P':=P) (St.sub ‹_› (by k_places)) (fun _ h=>h) rfl
  · with_reducible (refine nameQ ?_;intro _ _;refine eN ?_;intro _ _ _;refine If_N ?_;intro _ _;refine isTrue_or ?_;refine tkN (r:=true) ‹_› ‹_› LocV.a0 ‹_› (by k_places) (g_CALL _) mm1 (by k_dflt rfl) (by k_dflt rfl) ?_;intro _ _;refine ite_tt ?_;refine (by assumption:ImpG _ _) _ _ ?_;refine ite_tt ?_;refine eA ‹_› ?_;intro _ _ _;refine wpAny_Return_some ?_;refine PyProof.Rows.Constant_bool ?_;refine (by assumption:Abr _ _) _ _ (by k_dflt rfl) ?_;refine (by assumption:Abr _ _) _ _ (by k_dflt rfl) ?_;refine (by assumption:Imp _ _) _ _ ?_)
    exact Ends.of (own':=[]) (P':=P) (St.sub ‹_› (by k_places)) (fun _ h=>h) rfl
  · with_reducible (refine nameQ ?_;intro _ _;refine eN ?_;intro _ _ _;refine If_N ?_;intro _ _;refine isTrue_or ?_;refine tkN (r:=true) ‹_› ‹_› LocV.a0 ‹_› (by k_places) (g_CALL _) mm1 (by k_dflt rfl) (by k_dflt rfl) ?_;intro _ _;refine ite_tt ?_;refine (by assumption:ImpG _ _) _ _ ?_;refine ite_tt ?_;refine eA ‹_› ?_;intro _ _ _;refine wpAny_Return_some ?_;refine PyProof.Rows.Constant_bool ?_;refine (by assumption:Abr _ _) _ _ (by k_dflt rfl) ?_;refine (by assumption:Abr _ _) _ _ (by k_dflt rfl) ?_;refine (by assumption:Imp _ _) _ _ ?_)
    exact Ends.of (own':=[]) (P':=P) (St.sub ‹_› (by k_places)) (fun _ h=>h) rfl
  · with_reducible (refine nameQ ?_;intro _ _;refine eN ?_;intro _ _ _;refine If_N ?_;intro _ _;refine isTrue_or ?_;refine tkN (r:=true) ‹_› ‹_› LocV.a0 ‹_› (by k_places) (g_CALL _) mm1 (by k_dflt rfl) (by k_dflt rfl) ?_;intro _ _;refine ite_tt ?_;refine (by assumption:ImpG _ _) _ _ ?_;refine ite_tt ?_;refine eA ‹_› ?_;intro _ _ _;refine wpAny_Return_some ?_;refine PyProof.Rows.Constant_bool ?_;refine (by assumption:Abr _ _) _ _ (by k_dflt rfl) ?_;refine (by assumption:Abr _ _) _ _ (by k_dflt rfl) ?_;refine (by assumption:Imp _ _) _ _ ?_)
    exact Ends.of (own':=[]) (P':=P) (St.sub ‹_› (by k_places)) (fun _ h=>h) rfl
  · with_reducible (refine nameQ ?_;intro _ _;refine eN ?_;intro _ _ _;refine If_N ?_;intro _ _;refine isTrue_or ?_;refine tkN (r:=true) ‹_› ‹_› LocV.a0 ‹_› (by k_places) (g_CALL _) mm1 (by k_dflt rfl) (by k_dflt rfl) ?_;intro _ _;refine ite_tt ?_;refine (by assumption:ImpG _ _) _ _ ?_;refine ite_tt ?_;refine eA ‹_› ?_;intro _ _ _;refine wpAny_Return_some ?_;refine PyProof.Rows.Constant_bool ?_;refine (by assumption:Abr _ _) _ _ (by k_dflt rfl) ?_;refine (by assumption:Abr _ _) _ _ (by k_dflt rfl) ?_;refine (by assumption:Imp _ _) _ _ ?_)
    exact Ends.of (own':=[]) (P':=P) (St.sub ‹_› (by k_places)) (fun _ h=>h) rfl
  · with_reducible (refine nameQ ?_;intro _ _;refine eN ?_;intro _ _ _;refine If_N ?_;intro _ _;refine isTrue_or ?_;refine tkN (r:=true) ‹_› ‹_› LocV.a0 ‹_› (by k_places) (g_CALL _) mm1 (by k_dflt rfl) (by k_dflt rfl) ?_;intro _ _;refine ite_tt ?_;refine (by assumption:ImpG _ _) _ _ ?_;refine ite_tt ?_;refine eA ‹_› ?_;intro _ _ _;refine wpAny_Return_some ?_;refine PyProof.Rows.Constant_bool ?_;refine (by assumption:Abr _ _) _ _ (by k_dflt rfl) ?_;refine (by assumption:Abr _ _) _ _ (by k_dflt rfl) ?_;refine (by assumption:Imp _ _) _ _ ?_)
    exact Ends.of (own':=[]) (P':=P) (St.sub ‹_› (by k_places)) (fun _ h=>h) rfl
theorem is_early {a x:Addr} {t:T} (h:Nd w P a t):Pure w 2 P (call (.ref 484) [.ref x,.ref a]) fun _ r=>r = .bool (isE t):=by
  intro c m own s Q E S hdp hu ret
  have X:=S.X
  refine wpAny_call ?_
  (refine enter (K:=hd.heap_39 _) rfl ‹_› (by k_is) (by k_is) (by first | exact bl1 ‹_› | omega) (by exact BindsTo.of_eq rfl) (by exact rfl) (by kernel_rfl) ?_ ‹_›)
  clear ret S
  intro c' s' gN hd' hu' S'
  dsimp only [List.map] at S'
  cases t
  case setl n v =>
    with_reducible (refine nameQ ?_;intro _ _;refine eN ?_;intro _ _ _;refine wpAny_Return_some ?_;refine BoolOp_and ?_;refine wpAny_Compare1 ?_ (by k_dflt rfl);refine Attribute_any_ ?_ (by k_dflt rfl);refine ev_lv ‹_› ‹_› LocV.a1 ?_;refine at_kind ‹_› ‹_› (by k_places) (by first | assumption | exact rfl) ?_;intro _ _ _;refine ev_glob ‹_› ‹_› (g_SET_LOCAL _) mm2 ?_;refine eq_int_tt (by k_dflt rfl) ?_;refine wpAny_truthy_bool ?_;refine ite_tt ?_;refine BoolOp_one ?_;refine wpAny_Compare1 ?_ (by k_dflt rfl);refine Attribute_any_ ?_ (by k_dflt rfl);refine Attribute_any_ ?_ (by k_dflt rfl);refine ev_lv ‹_› ‹_› LocV.a1 ?_;refine at_setl_value ‹_› ‹_› (by k_places) ?_;intro _ _ _ _;refine at_kind ‹_› ‹_› (by k_places) (by first | assumption | exact rfl) ?_;intro _ _ _;refine Tuple_ ?_;refine sp1 ?_ (by k_dflt rfl);refine ev_glob ‹_› ‹_› (g_LAMBDA _) mm3 ?_;refine sp1 ?_ (by k_dflt rfl);refine ev_glob ‹_› ‹_› (g_CONST _) mm4 ?_;refine sp0 ?_;refine nt ‹_› ?_ sl2;intro _ _ _)
    refine in_tup ‹_› (by k_mem) (.cons _ _ (.cons _ _ .nil)) ?_
    with_reducible (refine (by assumption:Abr _ _) _ _ (by k_dflt rfl) ?_;refine (by assumption:Imp _ _) _ _ ?_)
    exact Ends.of (own':=[]) (P':=P) (St.sub ‹_› (by k_places)) (fun _ h=>h) (by rw [← isLC_k];rfl)
  · with_reducible (refine nameQ ?_;intro _ _;refine eN ?_;intro _ _ _;refine wpAny_Return_some ?_;refine BoolOp_and ?_;refine wpAny_Compare1 ?_ (by k_dflt rfl);refine Attribute_any_ ?_ (by k_dflt rfl);refine ev_lv ‹_› ‹_› LocV.a1 ?_;refine at_kind ‹_› ‹_› (by k_places) (by first | assumption | exact rfl) ?_;intro _ _ _;refine ev_glob ‹_› ‹_› (g_SET_LOCAL _) mm2 ?_;refine eq_int_ff (by k_dflt rfl) ?_;refine wpAny_truthy_bool ?_;refine ite_ff ?_;refine (by assumption:Abr _ _) _ _ (by k_dflt rfl) ?_;refine (by assumption:Imp _ _) _ _ ?_)
    exact Ends.of (own':=[]) (P':=P) (St.sub ‹_› (by k_places)) (fun _ h=>h) rfl
  · with_reducible (refine nameQ ?_;intro _ _;refine eN ?_;intro _ _ _;refine wpAny_Return_some ?_;refine BoolOp_and ?_;refine wpAny_Compare1 ?_ (by k_dflt rfl);refine Attribute_any_ ?_ (by k_dflt rfl);refine ev_lv ‹_› ‹_› LocV.a1 ?_;refine at_kind ‹_› ‹_› (by k_places) (by first | assumption | exact rfl) ?_;intro _ _ _;refine ev_glob ‹_› ‹_› (g_SET_LOCAL _) mm2 ?_;refine eq_int_ff (by k_dflt rfl) ?_;refine wpAny_truthy_bool ?_;refine ite_ff ?_;refine (by assumption:Abr _ _) _ _ (by k_dflt rfl) ?_;refine (by assumption:Imp _ _) _ _ ?_)
    exact Ends.of (own':=[]) (P':=P) (St.sub ‹_› (by k_places)) (fun _ h=>h) rfl
  · with_reducible (refine nameQ ?_;intro _ _;refine eN ?_;intro _ _ _;refine wpAny_Return_some ?_;refine BoolOp_and ?_;refine wpAny_Compare1 ?_ (by k_dflt rfl);refine Attribute_any_ ?_ (by k_dflt rfl);refine ev_lv ‹_› ‹_› LocV.a1 ?_;refine at_kind ‹_› ‹_› (by k_places) (by first | assumption | exact rfl) ?_;intro _ _ _;refine ev_glob ‹_› ‹_› (g_SET_LOCAL _) mm2 ?_;refine eq_int_ff (by k_dflt rfl) ?_;refine wpAny_truthy_bool ?_;refine ite_ff ?_;refine (by assumption:Abr _ _) _ _ (by k_dflt rfl) ?_;refine (by assumption:Imp _ _) _ _ ?_)
    exact Ends.of (own':=[]) (P':=P) (St.sub ‹_› (by k_places)) (fun _ h=>h) rfl
  · with_reducible (refine nameQ ?_;intro _ _;refine eN ?_;intro _ _ _;refine wpAny_Return_some ?_;refine BoolOp_and ?_;refine wpAny_Compare1 ?_ (by k_dflt rfl);refine Attribute_any_ ?_ (by k_dflt rfl);refine ev_lv ‹_› ‹_› LocV.a1 ?_;refine at_kind ‹_› ‹_› (by k_places) (by first | assumption | exact rfl) ?_;intro _ _ _;refine ev_glob ‹_› ‹_› (g_SET_LOCAL _) mm2 ?_;refine eq_int_ff (by k_dflt rfl) ?_;refine wpAny_truthy_bool ?_;refine ite_ff ?_;refine (by assumption:Abr _ _) _ _ (by k_dflt rfl) ?_;refine (by assumption:Imp _ _) _ _ ?_)
    exact Ends.of (own':=[]) (P':=P) (St.sub ‹_› (by k_places)) (fun _ h=>h) rfl
  · with_reducible (refine nameQ ?_;intro _ _;refine eN ?_;intro _ _ _;refine wpAny_Return_some ?_;refine BoolOp_and ?_;refine wpAny_Compare1 ?_ (by k_dflt rfl);refine Attribute_any_ ?_ (by k_dflt rfl);refine ev_lv ‹_› ‹_› LocV.a1 ?_;refine at_kind ‹_› ‹_› (by k_places) (by first | assumption | exact rfl) ?_;intro _ _ _;refine ev_glob ‹_› ‹_› (g_SET_LOCAL _) mm2 ?_;refine eq_int_ff (by k_dflt rfl) ?_;refine wpAny_truthy_bool ?_;refine ite_ff ?_;refine (by assumption:Abr _ _) _ _ (by k_dflt rfl) ?_;refine (by assumption:Imp _ _) _ _ ?_)
    exact Ends.of (own':=[]) (P':=P) (St.sub ‹_› (by k_places)) (fun _ h=>h) rfl
  · with_reducible (refine nameQ ?_;intro _ _;refine eN ?_;intro _ _ _;refine wpAny_Return_some ?_;refine BoolOp_and ?_;refine wpAny_Compare1 ?_ (by k_dflt rfl);refine Attribute_any_ ?_ (by k_dflt rfl);refine ev_lv ‹_› ‹_› LocV.a1 ?_;refine at_kind ‹_› ‹_› (by k_places) (by first | assumption | exact rfl) ?_;intro _ _ _;refine ev_glob ‹_› ‹_› (g_SET_LOCAL _) mm2 ?_;refine eq_int_ff (by k_dflt rfl) ?_;refine wpAny_truthy_bool ?_;refine ite_ff ?_;refine (by assumption:Abr _ _) _ _ (by k_dflt rfl) ?_;refine (by assumption:Imp _ _) _ _ ?_)
    exact Ends.of (own':=[]) (P':=P) (St.sub ‹_› (by k_places)) (fun _ h=>h) rfl
  · with_reducible (refine nameQ ?_;intro _ _;refine eN ?_;intro _ _ _;refine wpAny_Return_some ?_;refine BoolOp_and ?_;refine wpAny_Compare1 ?_ (by k_dflt rfl);refine Attribute_any_ ?_ (by k_dflt rfl);refine ev_lv ‹_› ‹_› LocV.a1 ?_;refine at_kind ‹_› ‹_› (by k_places) (by first | assumption | exact rfl) ?_;intro _ _ _;refine ev_glob ‹_› ‹_› (g_SET_LOCAL _) mm2 ?_;refine eq_int_ff (by k_dflt rfl) ?_;refine wpAny_truthy_bool ?_;refine ite_ff ?_;refine (by assumption:Abr _ _) _ _ (by k_dflt rfl) ?_;refine (by assumption:Imp _ _) _ _ ?_)
    exact Ends.of (own':=[]) (P':=P) (St.sub ‹_› (by k_places)) (fun _ h=>h) rfl
  · with_reducible (refine nameQ ?_;intro _ _;refine eN ?_;intro _ _ _;refine wpAny_Return_some ?_;refine BoolOp_and ?_;refine wpAny_Compare1 ?_ (by k_dflt rfl);refine Attribute_any_ ?_ (by k_dflt rfl);refine ev_lv ‹_› ‹_› LocV.a1 ?_;refine at_kind ‹_› ‹_› (by k_places) (by first | assumption | exact rfl) ?_;intro _ _ _;refine ev_glob ‹_› ‹_› (g_SET_LOCAL _) mm2 ?_;refine eq_int_ff (by k_dflt rfl) ?_;refine wpAny_truthy_bool ?_;refine ite_ff ?_;refine (by assumption:Abr _ _) _ _ (by k_dflt rfl) ?_;refine (by assumption:Imp _ _) _ _ ?_)
    exact Ends.of (own':=[]) (P':=P) (St.sub ‹_› (by k_places)) (fun _ h=>h) rfl
theorem let_node {l:Int} {k1:Tok} {pl ol:Addr} {vs us:List Value} {e1 e2:Nat} {ps:List Int} {xs:List T} {v:Value} {t:T} (h1:(pl,listOf vs.toArray e1)∈P) (hi:IntsAre vs ps) (h2:(ol,listOf us.toArray e2)∈P) (hn:Nds w P us xs) (hv:TR w P v t) :
    Pure w 6 P (call (.ref 306) [.int l k1,.ref pl,.ref ol,v]) fun P' r=>TR w P' r (.call (.lam l ps t) xs):=by
  intro c m own s Q E S hdp hu ret
  have X:=S.X
  refine wpAny_call ?_
  (refine enter (K:=hd.heap_39 _) rfl ‹_› (by k_is) (by k_is) (by first | exact bl1 ‹_› | omega) (by exact BindsTo.of_eq rfl) (by exact rfl) (by kernel_rfl) ?_ ‹_›)
  clear ret S
  intro c' s' gN hd' hu' S'
  dsimp only [List.map] at S'
  have d3:c'.A.depth + 3 < recursionLimit:=by first | exact bl ‹_› ‹_› (by decide) | lia
  have u3:c'.A.units + 8 * 3 < cLine:=by first | exact bl ‹_› ‹_› (by decide) | lia
  with_reducible (refine nameQ ?_;intro _ _;refine eN ?_;intro _ _ _;refine wpAny_Return_some ?_;refine call2 ‹_› ‹_› (g_Call _) (kp_Call _) mm4 ?_ (by k_dflt rfl) (by k_dflt rfl);refine call4 ‹_› ‹_› (g_Lambda _) (kp_Lambda _) mm5 ?_ (by k_dflt rfl) (by k_dflt rfl) (by k_dflt rfl) (by k_dflt rfl);refine ev_lv ‹_› ‹_› LocV.a0 ?_;refine ev_lv ‹_› ‹_› LocV.a1 ?_;refine UnaryOp_ ?_;refine ev_int ‹_› ?_;intro _ _ _;refine negS ‹_› ?_;intro _ _ _;refine ev_lv ‹_› ‹_› LocV.a3 ?_;refine And.intro (St.kin ‹_›) ?_)
  refine useP (mk_lam h1 hi hv) ‹_› d3 u3 ?_
  intro w5 P7 s19 S20 hs7 hT5
  with_reducible (refine ev_lv ‹_› ‹_› LocV.a2 ?_;refine And.intro (St.kin ‹_›) ?_)
  refine useP (mk_call hT5 (hs7 _ h2) (hn.mono hs7)) ‹_› d3 u3 ?_
  intro w6 P8 s20 S21 hs8 hT6
  with_reducible (refine (by assumption:Abr _ _) _ _ (by k_dflt rfl) ?_;refine (by assumption:Imp _ _) _ _ ?_)
  exact Ends.of (own':=[]) (P':=P8) S21 (fun p hp=>hs8 _ (hs7 _ hp)) hT6
theorem seq_of {l:Addr} {vs:List Value} {e:Nat} {ts:List T} (h1:(l,listOf vs.toArray e)∈P) (hn:Nds w P vs ts) (hz:ts.length≤1000000) :
    Pure w 6 P (call (.ref 320) [.ref l]) fun P' r=>TR w P' r (seqOf ts):=by
  intro c m own s Q E S hdp hu ret
  have X:=S.X
  refine wpAny_call ?_
  (refine enter (K:=hd.heap_39 _) rfl ‹_› (by k_is) (by k_is) (by first | exact bl1 ‹_› | omega) (by exact BindsTo.of_eq rfl) (by exact rfl) (by kernel_rfl) ?_ ‹_›)
  clear ret S
  intro c' s' gN hd' hu' S'
  dsimp only [List.map] at S'
  have d3:c'.A.depth + 3 < recursionLimit:=by first | exact bl ‹_› ‹_› (by decide) | lia
  have u3:c'.A.units + 8 * 3 < cLine:=by first | exact bl ‹_› ‹_› (by decide) | lia
  have hvl:=hn.length
  with_reducible (refine nameQ ?_;intro _ _;refine eN ?_;intro _ _ _;refine wpAny_Return_some ?_;refine IfExpN ?_;intro _ _;refine wpAny_isTrue_Compare1 ?_ (by k_dflt rfl);refine callB1 ‹_› ‹_› (gn_len _) bt_len bt_ne_len mm1 ?_ (by k_dflt rfl);refine ev_lv ‹_› ‹_› LocV.a0 ?_)
  refine len_P ‹_› ‹_› (by rw [hvl];exact hz) ?_
  intro s1 tk1 S1
  with_reducible (refine ev_int ‹_› ?_;intro _ _ _;refine eq_int ?_;refine wpAny_truthy_bool ?_;refine (by assumption:ImpG _ _) _ _ ?_)
  refine ifB (fun hb=>?_) (fun hb=>?_)
  · have hb1:vs.length = 1:=by have:=eq_of_beq hb;lia
    refine ex1 (List.length_eq_one_iff.mp hb1) ?_;intro v hx1
    symm at hx1;subst hx1
    cases hn with
    | cons ha hr =>
      cases hr
      with_reducible (refine Subscript_ ?_;refine ev_lv ‹_› ‹_› LocV.a0 ?_;refine ev_int ‹_› ?_;intro _ _ _)
      refine li_item (St.isListP ‹_› h1) (by decide) (by decide) rfl ?_ (by k_dflt rfl)
      with_reducible (refine (by assumption:Abr _ _) _ _ (by k_dflt rfl) ?_;refine (by assumption:Imp _ _) _ _ ?_)
      exact Ends.of (own':=[]) (P':=P) ‹_› (fun _ h=>h) ⟨_,rfl,ha⟩
  · have hb1:¬ vs.length = 1:=fun e=>by rw [e] at hb;exact absurd hb (by decide)
    with_reducible (refine call1 ‹_› ‹_› (g_Seq _) (kp_Seq _) mm2 ?_ (by k_dflt rfl);refine ev_lv ‹_› ‹_› LocV.a0 ?_;refine And.intro (St.kin ‹_›) ?_)
    refine useP (mk_seq h1 hn) ‹_› d3 u3 ?_
    intro w6 P8 s20 S21 hs8 hT6
    with_reducible (refine (by assumption:Abr _ _) _ _ (by k_dflt rfl) ?_;refine (by assumption:Imp _ _) _ _ ?_)
    refine Ends.of (own':=[]) (P':=P8) S21 hs8 ?_
    have e:seqOf ts = .seq ts:=by
      rw [hvl] at hb1
      match ts,hb1 with
      | [],_=>rfl
      | [_],h=>exact absurd rfl h
      | _::_::_,_=>rfl
    rw [e];exact hT6
end
end
section
open PySem.Calls
theorem zip_min {α β:Type}:∀ (a:List α) (b:List β),(a.take (min a.length b.length)).zip (b.take (min a.length b.length)) = a.zip b
  | [],b=>by simp
  | x::a,[]=>by simp
  | x::a,y::b=>by
    have:=zip_min a b
    rw [List.length_cons,List.length_cons,Nat.succ_min_succ,List.take_succ_cons,List.take_succ_cons,List.zip_cons_cons,this,List.zip_cons_cons]
section
variable {w:World} {P:Led}
/-- the dict of those that begin late -/
noncomputable def DK (w:World) (P:Led) (d:Addr) (late:List Int):Prop:=∃ o kv,(d,o)∈P∧o.IsDictOf (IK w) kv∧(d == sysModules) = false∧∀ x,(valueAt kv x).isSome = late.contains x
theorem begun_late {a:Addr} {l:Int} {ps:List Int} {b:T} {xs:List T} (h:Nd w P a (.call (.lam l ps b) xs)) (hp:ps.length≤4000):Pure w 6 P (call (.ref 463) [.ref a]) fun P' r=>∃ d,r = .ref d∧DK w P' d (lateOf ps xs):=by
  intro c m own s Q E S hdp hu ret
  have X:=S.X
  refine wpAny_call ?_
  (refine enter (K:=hd.heap_39 _) rfl ‹_› (by k_is) (by k_is) (by first | exact bl1 ‹_› | omega) (by exact BindsTo.of_eq rfl) (by exact rfl) (by kernel_rfl) ?_ ‹_›)
  clear ret S
  intro c' s' gN hd' hu' S'
  dsimp only [List.map] at S'
  have d3:c'.A.depth + 3 < recursionLimit:=by first | exact bl ‹_› ‹_› (by decide) | lia
  have u3:c'.A.units + 8 * 3 < cLine:=by first | exact bl ‹_› ‹_› (by decide) | lia
  with_reducible (refine nameQ ?_;intro _ _;refine eN ?_;intro _ _ _;refine wpAny_Assign_Name ?_ (by k_dflt rfl))
  refine dnew ‹_› ?_
  intro d o s1 hd0 hlo S1
  with_reducible (refine st_loc ‹_› ‹_› ?_;refine SetQ.i (SetL.there (SetL.hereN)) ?_;intro _ _;refine (by assumption:Nxt _ _ _ _ _ _ _) _ ?_;refine eI ‹_› ?_;intro _ _ _)
  refine For_ ‹_› ?_ (by k_dflt exact fun _=>rfl)
  with_reducible (refine callT2 ‹_› ‹_› (gn_zip _) bt_zip bt_ne_zip mm4 ?_ (by k_dflt rfl) (by k_dflt rfl);refine Attribute_any_ ?_ (by k_dflt rfl);refine Attribute_any_ ?_ (by k_dflt rfl);refine ev_lv ‹_› ‹_› LocV.a0 ?_;refine at_call_operator ‹_› ‹_› (by k_places) ?_;intro _ _ _ _;refine at_lam_params ‹_› ‹_› (by k_places) ?_;intro _ _ _ _ _ _ _;refine Attribute_any_ ?_ (by k_dflt rfl);refine ev_lv ‹_› ‹_› LocV.a0 ?_;refine at_call_operands ‹_› ‹_› (by k_places) ?_;intro _ _ _ _ _ _ _)
  rename_i l1 us1 e1 _ hl1 hi1 _ l2 us2 e2 _ hl2 hn2
  have hu1:=hi1.length
  have hu2:=hn2.length
  refine forZ (vals:=[some (.ref a),some (.ref d),none,none]) (St.pad 2 (vs:=[some (.ref a),some (.ref d)]) ‹_›) gN hl1 hl2 (fun i vals₁ own₁ P₁=>∃ v1 v2 o kv,vals₁ = [some (.ref a),some (.ref d),v1,v2]∧own₁ = [(d,o)]∧o.IsDictOf (IK w) kv∧(∀ p∈P,p∈P₁)∧kv.length≤i∧∀ x,(valueAt kv x).isSome = (lateOf (ps.take i) (xs.take i)).contains x)
    (mk4 none none o [] ⟨rfl,rfl,hd0,fun _ h=>h,Nat.le_refl _,fun x=>rfl⟩) ?_ ?_
  · intro i u v vals₁ own₁ P₁ P₁' W s₁ Qb hqb hi hu hv hx1 S hs
    refine ex4 hx1 ?_;clear hx1;intro v1 v2 o kv hy4;refine an6 hy4 ?_;clear hy4;intro hx2 hx3 hd hP1 hkl hkv
    symm at hx2;subst hx2
    symm at hx3;subst hx3
    refine ex2 (hi1.at _ _ hu) ?_;intro n tk hy6;refine an2 hy6 ?_;clear hy6;intro hx5 hn
    symm at hx5;subst hx5
    refine ex2 (hn2.get' hv) ?_;intro xa t hy8;refine an3 hy8 ?_;clear hy8;intro hx7 ht hNd
    symm at hx7;subst hx7
    have hNd':=hNd.mono fun p hp=>hs _ (hP1 p hp)
    refine SetQ.i (SetL.a2) ?_
    refine SetQ.i (SetL.a3) ?_
    intro s2 S2
    have hin:i < ps.length:=by lia
    have hinx:i < xs.length:=by lia
    have htk1:ps.take (i + 1) = ps.take i ++ [n]:=by rw [List.take_add_one,hn];rfl
    have htk2:xs.take (i + 1) = xs.take i ++ [t]:=by rw [List.take_add_one,ht];rfl
    have hlt:lateOf (ps.take (i + 1)) (xs.take (i + 1)) = lateOf (ps.take i) (xs.take i) ++ (if t.isUn then [n] else []):=by
      rw [htk1,htk2,lateOf_snoc (by rw [List.length_take,List.length_take];lia)]
    with_reducible (refine eI ‹_› ?_;intro _ _ _;refine If_N ?_;intro _ _;refine isTrue_plain ?_ (by k_dflt rfl);refine call1 ‹_› ‹_› (g_is_unassigned _) (kp_is_unassigned _) mm5 ?_ (by k_dflt rfl);refine ev_lv ‹_› ‹_› LocV.a3 ?_;refine And.intro (St.kin ‹_›) ?_)
    refine useP (is_un hNd') ‹_› (by lia) (by lia) ?_
    rintro r P3 s3 S3 hs3 rfl
    with_reducible (refine wpAny_truthy_bool ?_;refine (by assumption:ImpG _ _) _ _ ?_)
    refine ifB (fun hb=>?_) (fun hb=>?_)
    · with_reducible (refine eA ‹_› ?_;intro _ _ _;refine wpAny_Assign_Subscript ?_ (by k_dflt rfl);refine PyProof.Rows.Constant_bool ?_;refine ev_lv ‹_› ‹_› LocV.a1 ?_;refine ev_lv ‹_› ‹_› LocV.a2 ?_)
      refine dset (cells:=[(d,o)]) (l:=[(d,kv)]) (i:=0) (.cons hd hlo .nil) ‹_› rfl (by lia) ?_
      intro cells' s4 hD' S4
      cases hD' with
      | cons hd' _ r =>
        cases r
        with_reducible (refine (by assumption:Nxt _ _ _ _ _ _ _) _ ?_;refine wpAny_execs_nil ?_;refine (by assumption:Nxt _ _ _ _ _ _ _) _ ?_;refine wpAny_execs_nil ?_;refine (by assumption:Imp _ _) _ _ ?_)
        refine mk3 _ [_] P3 ⟨S4,hs3,mk4 _ _ _ _ ⟨rfl,rfl,hd',fun p hp=>hs3 _ (hs _ (hP1 _ hp)),Nat.le_trans (len_stored _ _ _) (by lia),fun x=>?_⟩⟩
        rw [hlt,hb,if_pos rfl,valueAt_stored]
        by_cases hx:x = n
        · subst hx;simp
        · rw [if_neg hx,hkv];simp [hx]
    · with_reducible (refine wpAny_execs_nil ?_;refine (by assumption:Nxt _ _ _ _ _ _ _) _ ?_;refine wpAny_execs_nil ?_;refine (by assumption:Imp _ _) _ _ ?_)
      refine mk3 _ [_] P3 ⟨by assumption,hs3,mk4 _ _ _ _ ⟨rfl,rfl,hd,fun p hp=>hs3 _ (hs _ (hP1 _ hp)),by lia,fun x=>?_⟩⟩
      rw [hlt,hb,if_neg (by decide),List.append_nil]
      exact hkv x
  · intro vals' own' P' s3 S3 hx9
    refine ex4 hx9 ?_;clear hx9;intro v1 v2 o kv hy12;refine an6 hy12 ?_;clear hy12;intro hx10 hx11 hd hP1 hkl hkv
    symm at hx10;subst hx10
    symm at hx11;subst hx11
    try dsimp only
    with_reducible (refine (by assumption:Nxt _ _ _ _ _ _ _) _ ?_;refine eI ‹_› ?_;intro _ _ _;refine wpAny_Return_some ?_;refine ev_lv ‹_› ‹_› LocV.a1 ?_;refine (by assumption:Abr _ _) _ _ (by k_dflt rfl) ?_;refine (by assumption:Imp _ _) _ _ ?_)
    have hmin:min us1.length us2.length = min ps.length xs.length:=by rw [hu1,hu2]
    rw [hmin] at hkv
    refine Ends.of (own':=[]) (S3.settle) (fun p hp=>.tail _ (hP1 p hp)) ⟨d,rfl,o,kv,.head _,hd,hlo,?_⟩
    intro x
    rw [hkv x]
    unfold lateOf
    rw [zip_min]
end
end
section
open PySem.Calls
section
variable {w:World} {c:Cx} {m:Str→Option Value} {own P:Led} {s:Shared} {E:Value→Shared→Prop} {Q:Value→Shared→Prop}
theorem pick_from {xs:List Value} {a:Int} (h:0≤a):kms_pick xs (some a) none = xs.drop a.toNat:=by
  unfold kms_pick
  show ((xs.drop (if a < 0 then xs.length - (-a).toNat else min a.toNat xs.length)).take (xs.length - (if a < 0 then xs.length - (-a).toNat else min a.toNat xs.length))) = _
  rw [if_neg (by lia)]
  rw [List.take_of_length_le (by rw [List.length_drop];exact Nat.le_refl _),kmk_drop_min]
theorem pick_to {xs:List Value} {a:Int} (h:0≤a):kms_pick xs none (some a) = xs.take a.toNat:=by
  unfold kms_pick
  show ((xs.drop 0).take ((if a < 0 then xs.length - (-a).toNat else min a.toNat xs.length) - 0)) = _
  rw [if_neg (by lia),Nat.sub_zero,List.drop_zero,kmk_take_min]
theorem slice_up {value slice:Expr} {l:Addr} {xs zs:List Value} {vl vu:Value} {lo hi:Option Int} (S:St w c m own P s) (hl:s.heap.IsList l xs.toArray) (pl:IsPart vl lo) (pu:IsPart vu hi) (e:kms_pick xs lo hi = zs) (hz:xs.length≤1000000)
    (h:∀ D s',St w c m own ((D,listOf zs.toArray 0)::P) s'→Q (.ref D) s')
    (hs:subscripted slice false (.ref l) (.ref s.heap.objs.size) = operate [.ref s.heap.objs.size,.ref l] (getItem (.ref l) (.ref s.heap.objs.size))) (ht:∀ r,letTemporaryGo value (.ref l) r = pure ()) :
    wpAny (model rw_pq1024_01.row.prog w) c.A (subscriptTail value slice (.ref l) (.ref s.heap.objs.size)) Q E { s with heap:=s.heap.push { cls:=.type "slice",data:=.fields #[vl,vu,.none] } } :=
  kms_slice_lit S.F S.N hl pl pu e (fun D h' F' N' lt=>h D _ (S.addP (tk:=s.toks) F' N' lt)) hs ht (by rw [List.size_toArray];exact fits_le hz)
theorem slice_rev {value slice:Expr} {l:Addr} {xs:List Value} {t:Tok} {ops:List Value} (S:St w c m own P s) (hl:s.heap.IsList l xs.toArray) (hz:xs.length≤1000000)
    (h:∀ D s',St w c m own ((D,listOf xs.reverse.toArray 0)::P) s'→Q (.ref D) s')
    (hs:subscripted slice false (.ref l) (.ref s.heap.objs.size) = operate ops (getItem (.ref l) (.ref s.heap.objs.size))) (ht:∀ r,letTemporaryGo value (.ref l) r = pure ()) :
    wpAny (model rw_pq1024_01.row.prog w) c.A (subscriptTail value slice (.ref l) (.ref s.heap.objs.size)) Q E { s with heap:=s.heap.push { cls:=.type "slice",data:=.fields #[.none,.none,.int (-1) t] } } :=
  krv_lit S.F S.N hl (.int _ _) rfl (fun D h' F' N' lt=>h D _ (S.addP (tk:=s.toks) F' N' lt)) hs ht (by rw [List.size_toArray];exact fits_le hz)
/-- a method of an own class,by its object -/
theorem meth1 {x C d f:Addr} {es:List DictEntry} {n:Nat} {name:Str} {pl:Sem Bool} {pos:Pos} {env:Env} {e1:Expr} (S:St w c m own P s) (hx:(x,instObj C d)∈P) (hd':(d,dictOf es n)∈P) (hg:plainGet (hd.heap_39 w.params) C name = true) (hf:findIn (hd.heap_39 w.params) (.ref C) name = some (some (.ref f))) (ht:isFn (hd.heap_39 w.params) (.ref f) = true) (hl:getL name es = some none) (hk:keepIn (hd.heap_39 w.params) (.ref f) = true)
    (h:wpAny (model rw_pq1024_01.row.prog w) c.A (eval e1 env) (fun v s1=>(hd.heap_39 w.params).In s1.heap∧wpAny (model rw_pq1024_01.row.prog w) c.A (call (.ref f) [.ref x,v]) Q E s1) E s)
    (he:starEach [e1] env = [(false,eval e1 env)]) :
    wpAny (model rw_pq1024_01.row.prog w) c.A (getMethod (.ref x) name pl) (fun fx s₂=>wpAny (model rw_pq1024_01.row.prog w) c.A (callWith pos fx.1 fx.2 (backTo pos (starEach [e1] env)) []) Q E s₂) E s :=
  method_inst S.F S.X (inst_at S hx hd') hg hf ht hl (callWith_K S.X hk (args_cons (wpAny_mono h (fun v s1 h1=>args_nil h1) fun _ _ e=>e) he) he rfl)
theorem meth2 {x C d f:Addr} {es:List DictEntry} {n:Nat} {name:Str} {pl:Sem Bool} {pos:Pos} {env:Env} {e1 e2:Expr} (S:St w c m own P s) (hx:(x,instObj C d)∈P) (hd':(d,dictOf es n)∈P) (hg:plainGet (hd.heap_39 w.params) C name = true) (hf:findIn (hd.heap_39 w.params) (.ref C) name = some (some (.ref f))) (ht:isFn (hd.heap_39 w.params) (.ref f) = true) (hl:getL name es = some none) (hk:keepIn (hd.heap_39 w.params) (.ref f) = true)
    (h:wpAny (model rw_pq1024_01.row.prog w) c.A (eval e1 env) (fun v s1=>wpAny (model rw_pq1024_01.row.prog w) c.A (eval e2 env) (fun v2 s2=>(hd.heap_39 w.params).In s2.heap∧wpAny (model rw_pq1024_01.row.prog w) c.A (call (.ref f) [.ref x,v,v2]) Q E s2) E s1) E s)
    (he:starEach [e1,e2] env = (false,eval e1 env)::starEach [e2] env) (he2:starEach [e2] env = [(false,eval e2 env)]) :
    wpAny (model rw_pq1024_01.row.prog w) c.A (getMethod (.ref x) name pl) (fun fx s₂=>wpAny (model rw_pq1024_01.row.prog w) c.A (callWith pos fx.1 fx.2 (backTo pos (starEach [e1,e2] env)) []) Q E s₂) E s :=
  method_inst S.F S.X (inst_at S hx hd') hg hf ht hl (callWith_K S.X hk (args_cons (wpAny_mono h (fun v s1 h1=>args_cons (wpAny_mono h1 (fun v2 s2 h2=>args_nil h2) fun _ _ e=>e) he2) fun _ _ e=>e) he) he (by rw [he2];rfl))
theorem meth3 {x C d f:Addr} {es:List DictEntry} {n:Nat} {name:Str} {pl:Sem Bool} {pos:Pos} {env:Env} {e1 e2 e3:Expr} (S:St w c m own P s) (hx:(x,instObj C d)∈P) (hd':(d,dictOf es n)∈P) (hg:plainGet (hd.heap_39 w.params) C name = true) (hf:findIn (hd.heap_39 w.params) (.ref C) name = some (some (.ref f))) (ht:isFn (hd.heap_39 w.params) (.ref f) = true) (hl:getL name es = some none) (hk:keepIn (hd.heap_39 w.params) (.ref f) = true)
    (h:wpAny (model rw_pq1024_01.row.prog w) c.A (eval e1 env) (fun v s1=>wpAny (model rw_pq1024_01.row.prog w) c.A (eval e2 env) (fun v2 s2=>wpAny (model rw_pq1024_01.row.prog w) c.A (eval e3 env) (fun v3 s3=>(hd.heap_39 w.params).In s3.heap∧wpAny (model rw_pq1024_01.row.prog w) c.A (call (.ref f) [.ref x,v,v2,v3]) Q E s3) E s2) E s1) E s)
    (he:starEach [e1,e2,e3] env = (false,eval e1 env)::starEach [e2,e3] env) (he2:starEach [e2,e3] env = (false,eval e2 env)::starEach [e3] env) (he3:starEach [e3] env = [(false,eval e3 env)]) :
    wpAny (model rw_pq1024_01.row.prog w) c.A (getMethod (.ref x) name pl) (fun fx s₂=>wpAny (model rw_pq1024_01.row.prog w) c.A (callWith pos fx.1 fx.2 (backTo pos (starEach [e1,e2,e3] env)) []) Q E s₂) E s :=
  method_inst S.F S.X (inst_at S hx hd') hg hf ht hl (callWith_K S.X hk (args_cons (wpAny_mono h (fun v s1 h1=>args_cons (wpAny_mono h1 (fun v2 s2 h2=>args_cons (wpAny_mono h2 (fun v3 s3 h3=>args_nil h3) fun _ _ e=>e) he3) fun _ _ e=>e) he2) fun _ _ e=>e) he) he (by rw [he2,he3];rfl))
theorem dk_in {d:Addr} {late:List Int} {k:Int} {t:Tok} {P₀:Led} (S:St w c m own P s) (h:DK w P₀ d late) (hs:∀ p∈P₀,p∈P) (k':∀ s',St w c m own P s'→Q (.bool (late.contains k)) s'):wpAny (model rw_pq1024_01.row.prog w) c.A (compareOp .In (.int k t) (.ref d)) Q E s:=by
  refine ex2 h ?_;clear h;intro o kv hy1;refine an4 hy1 ?_;clear hy1;intro hm ho hlo hv
  exact kda_in (knd:=IK w) S.N (List.mem_append_right _ (hs _ hm)) ho hlo (intKind_is _ _ _ _) _ (hv k) (k' _ (S.tok _))
end
/-- a Fixing made;a finished Facts -/
noncomputable def FxObj (w:World) (P:Led) (x F:Addr):Prop:=∃ d t,(x,instObj 501 d)∈P∧(d,dictOf [ent w "facts" t (.ref F)] 1)∈P
noncomputable def FSet (w:World) (P:Led) (F:Addr) (cn:Int→Nat):Prop:=∃ dF es n dS o kv,(F,instObj 379 dF)∈P∧(dF,dictOf es n)∈P∧getL (Str.ofString "set") es = some (some (.ref dS))∧(dS,o)∈P∧o.IsDictOf (IK w) kv∧∀ x,cn x≠0→∃ t,valueAt kv x = some (.int (cn x:Nat) t)
theorem fme_501 (w:World):findIn (hd.heap_39 w.params) (.ref 501) (Str.ofString "is_early") = some (some (.ref 484)):=by kernel_rfl
theorem fmw_501 (w:World):findIn (hd.heap_39 w.params) (.ref 501) (Str.ofString "without") = some (some (.ref 498)):=by kernel_rfl
theorem fmt_501 (w:World):findIn (hd.heap_39 w.params) (.ref 501) (Str.ofString "turned") = some (some (.ref 491)):=by kernel_rfl
theorem isfn_484 (w:World):isFn (hd.heap_39 w.params) (.ref 484) = true:=by kernel_rfl
theorem isfn_498 (w:World):isFn (hd.heap_39 w.params) (.ref 498) = true:=by kernel_rfl
theorem isfn_491 (w:World):isFn (hd.heap_39 w.params) (.ref 491) = true:=by kernel_rfl
theorem kpf_484 (w:World):keepIn (hd.heap_39 w.params) (.ref 484) = true:=by kernel_rfl
theorem kpf_498 (w:World):keepIn (hd.heap_39 w.params) (.ref 498) = true:=by kernel_rfl
noncomputable def keptOf (ns ps:List Int) (xs:List T):List Int × List T:=(((ps.zip xs).filter fun p=>!ns.contains p.1).map (·.1),((ps.zip xs).filter fun p=>!ns.contains p.1).map (·.2))
theorem keptOf_snoc {ns a:List Int} {b:List T} {n:Int} {t:T} (h:a.length = b.length):keptOf ns (a ++ [n]) (b ++ [t]) = ((keptOf ns a b).1 ++ (if ns.contains n then [] else [n]),(keptOf ns a b).2 ++ (if ns.contains n then [] else [t])):=by
  unfold keptOf
  rw [List.zip_append h,List.filter_append,List.map_append,List.map_append]
  by_cases hu:n∈ns <;> simp [hu]
theorem any_contains (ns:List Int) (n:Int):ns.any (· == n) = ns.contains n:=by
  induction ns with
  | nil=>rfl
  | cons a r ih=>rw [List.any_cons,List.contains_cons,ih,BEq.comm]
section
variable {w:World} {P:Led}
theorem without {x a nl:Addr} {l:Int} {ps:List Int} {b:T} {xs:List T} {us:List Value} {e:Nat} {ns:List Int} {v:Value} {t:T} (h:Nd w P a (.call (.lam l ps b) xs)) (hnl:(nl,listOf us.toArray e)∈P) (hi:IntsAre us ns) (hv:TR w P v t) (hp:ps.length≤4000) :
    Pure w 10 P (call (.ref 498) [.ref x,.ref a,.ref nl,v]) fun P' r=>TR w P' r (if ((ps.zip xs).filter fun p=>!ns.contains p.1).isEmpty then t else .call (.lam l (((ps.zip xs).filter fun p=>!ns.contains p.1).map (·.1)) t) (((ps.zip xs).filter fun p=>!ns.contains p.1).map (·.2))):=by
  intro c m own s Q E S hdp hu ret
  have X:=S.X
  refine wpAny_call ?_
  (refine enter (K:=hd.heap_39 _) rfl ‹_› (by k_is) (by k_is) (by first | exact bl1 ‹_› | omega) (by exact BindsTo.of_eq rfl) (by exact rfl) (by kernel_rfl) ?_ ‹_›)
  clear ret S
  intro c' s' gN hd' hu' S'
  dsimp only [List.map] at S'
  have d3:c'.A.depth + 6 < recursionLimit:=by first | exact bl ‹_› ‹_› (by decide) | lia
  have u3:c'.A.units + 8 * 6 < cLine:=by first | exact bl ‹_› ‹_› (by decide) | lia
  have flag:OwnFlag:=⟨trivial⟩
  with_reducible (refine nameQ ?_;intro _ _;refine eN ?_;intro _ _ _;refine wpAny_Assign_Name ?_ (by k_dflt rfl);refine List_ ?_;refine sp0 ?_;refine nl_flag ‹_› ‹_› ?_ sl0;intro _ _ _;refine st_loc ‹_› ‹_› ?_;refine SetQ.i (SetL.there (SetL.there (SetL.there (SetL.there (SetL.hereN))))) ?_;intro _ _;refine (by assumption:Nxt _ _ _ _ _ _ _) _ ?_;refine eI ‹_› ?_;intro _ _ _;refine wpAny_Assign_Name ?_ (by k_dflt rfl);refine List_ ?_;refine sp0 ?_;refine nl_flag ‹_› ‹_› ?_ sl0;intro _ _ _;refine st_loc ‹_› ‹_› ?_;refine SetQ.i (SetL.there (SetL.there (SetL.there (SetL.there (SetL.there (SetL.hereN)))))) ?_;intro _ _;refine (by assumption:Nxt _ _ _ _ _ _ _) _ ?_;refine eI ‹_› ?_;intro _ _ _)
  clear flag
  rename_i Lp _ _ _ _ _ _ _ Lo _ _ _ _ _ _ _
  refine For_ ‹_› ?_ (by k_dflt exact fun _=>rfl)
  with_reducible (refine callT2 ‹_› ‹_› (gn_zip _) bt_zip bt_ne_zip mm8 ?_ (by k_dflt rfl) (by k_dflt rfl);refine Attribute_any_ ?_ (by k_dflt rfl);refine Attribute_any_ ?_ (by k_dflt rfl);refine ev_lv ‹_› ‹_› LocV.a1 ?_;refine at_call_operator ‹_› ‹_› (by k_places) ?_;intro _ _ _ _;refine at_lam_params ‹_› ‹_› (by k_places) ?_;intro _ _ _ _ _ _ _;refine Attribute_any_ ?_ (by k_dflt rfl);refine ev_lv ‹_› ‹_› LocV.a1 ?_;refine at_call_operands ‹_› ‹_› (by k_places) ?_;intro _ _ _ _ _ _ _)
  rename_i l1 us1 e1 _ hl1 hi1 _ l2 us2 e2 _ hl2 hn2
  have hu1:=hi1.length
  have hu2:=hn2.length
  refine forZ (vals:=[some (.ref x),some (.ref a),some (.ref nl),some v,some (.ref Lp),some (.ref Lo),none,none]) (St.pad 2 (vs:=[some (.ref x),some (.ref a),some (.ref nl),some v,some (.ref Lp),some (.ref Lo)]) ‹_›) gN hl1 hl2
    (fun i vals₁ own₁ P₁=>∃ v1 v2 pv ov ep eo,vals₁ = [some (.ref x),some (.ref a),some (.ref nl),some v,some (.ref Lp),some (.ref Lo),v1,v2]∧own₁ = [(Lo,listOf (ov:List Value).toArray eo),(Lp,listOf (pv:List Value).toArray ep)]∧(∀ p∈P,p∈P₁)∧pv.length≤i∧ov.length≤i ∧
      IntsAre pv (keptOf ns (ps.take i) (xs.take i)).1∧All2 (TR w P₁) ov (keptOf ns (ps.take i) (xs.take i)).2)
    (mk6 none none [] [] 0 0 ⟨rfl,rfl,fun _ h=>h,Nat.le_refl _,Nat.le_refl _,.nil,.nil⟩) ?_ ?_
  · intro i u v' vals₁ own₁ P₁ P₁' W s₁ Qb hqb hi' hu hv' hx2 S hs
    refine ex6 hx2 ?_;clear hx2;intro v1 v2 pv ov ep eo hy5;refine an7 hy5 ?_;clear hy5;intro hx3 hx4 hP1 hpl hol hpv hov
    symm at hx3;subst hx3
    symm at hx4;subst hx4
    refine ex2 (hi1.at _ _ hu) ?_;intro n tk hy7;refine an2 hy7 ?_;clear hy7;intro hx6 hn
    symm at hx6;subst hx6
    refine ex2 (hn2.get' hv') ?_;intro xa t' hy9;refine an3 hy9 ?_;clear hy9;intro hx8 ht hNd
    symm at hx8;subst hx8
    have hNd':=hNd.mono fun p hp=>hs _ (hP1 p hp)
    have hnl':=hs _ (hP1 _ hnl)
    refine SetQ.i (SetL.a6) ?_
    refine SetQ.i (SetL.a7) ?_
    intro s2 S2
    have hin:i < ps.length:=by lia
    have hinx:i < xs.length:=by lia
    have htk1:ps.take (i + 1) = ps.take i ++ [n]:=by rw [List.take_add_one,hn];rfl
    have htk2:xs.take (i + 1) = xs.take i ++ [t']:=by rw [List.take_add_one,ht];rfl
    have hlt:keptOf ns (ps.take (i + 1)) (xs.take (i + 1)) = ((keptOf ns (ps.take i) (xs.take i)).1 ++ (if ns.contains n then [] else [n]),(keptOf ns (ps.take i) (xs.take i)).2 ++ (if ns.contains n then [] else [t'])):=by
      rw [htk1,htk2,keptOf_snoc (by rw [List.length_take,List.length_take];lia)]
    have hov':=hov.mono fun v t h=>TR.mono _ _ _ _ hs h
    with_reducible (refine eI ‹_› ?_;intro _ _ _;refine If_N ?_;intro _ _;refine wpAny_isTrue_Compare1 ?_ (by k_dflt rfl);refine ev_lv ‹_› ‹_› LocV.a6 ?_;refine ev_lv ‹_› ‹_› LocV.a2 ?_)
    refine PyProof.Rows.notin_list_ints (St.isListP ‹_› hnl') hi ?_
    with_reducible (refine wpAny_truthy_bool ?_;refine (by assumption:ImpG _ _) _ _ ?_)
    rw [any_contains]
    refine ifB (fun hb=>?_) (fun hb=>?_)
    · have hc:ns.contains n = false:=by simpa using hb
      rw [hc,if_neg (by decide),if_neg (by decide)] at hlt
      with_reducible (refine eA ‹_› ?_;intro _ _ _;refine wpAny_Expr_any ?_ (by k_dflt rfl) (by k_dflt rfl);refine MethodCall_ ?_ (by k_dflt rfl);refine ev_lv ‹_› ‹_› LocV.a4 ?_;refine lmeth ‹_› (by k_mem) PySem.F.slot_list_append PySem.F.type_list_append ?_;refine callWith_method1 ?_ (by k_dflt rfl) (by k_dflt rfl);refine sp1 ?_ (by k_dflt rfl);refine ev_lv ‹_› ‹_› LocV.a6 ?_;refine sp0 ?_)
      have S3:=St.perm (own':=_::_::W) ‹_› (List.Perm.swap _ _ _)
      refine app S3 (fits_le (by lia)) ?_
      intro s4 S4
      with_reducible (refine (by assumption:Nxt _ _ _ _ _ _ _) _ ?_;refine eA ‹_› ?_;intro _ _ _;refine wpAny_Expr_any ?_ (by k_dflt rfl) (by k_dflt rfl);refine MethodCall_ ?_ (by k_dflt rfl);refine ev_lv ‹_› ‹_› LocV.a5 ?_;refine lmeth ‹_› (by k_mem) PySem.F.slot_list_append PySem.F.type_list_append ?_;refine callWith_method1 ?_ (by k_dflt rfl) (by k_dflt rfl);refine sp1 ?_ (by k_dflt rfl);refine ev_lv ‹_› ‹_› LocV.a7 ?_;refine sp0 ?_)
      have S5:=St.perm (own':=_::_::W) ‹_› (List.Perm.swap _ _ _)
      refine app S5 (fits_le (by lia)) ?_
      intro s6 S6
      with_reducible (refine (by assumption:Nxt _ _ _ _ _ _ _) _ ?_;refine wpAny_execs_nil ?_;refine (by assumption:Nxt _ _ _ _ _ _ _) _ ?_;refine wpAny_execs_nil ?_;refine (by assumption:Imp _ _) _ _ ?_)
      refine mk3 _ [_,_] P₁' ⟨S6,fun _ h=>h,mk6 _ _ (pv ++ [.int n tk]) (ov ++ [.ref xa]) _ _ ⟨rfl,rfl,fun p hp=>hs _ (hP1 _ hp),by simpa using hpl,by simpa using hol,?_,?_⟩⟩
      · rw [hlt];exact hpv.append (.cons _ _ .nil)
      · rw [hlt];exact hov'.snoc ⟨_,rfl,hNd'⟩
    · have hc:ns.contains n = true:=by simpa using hb
      rw [hc,if_pos rfl,if_pos rfl,List.append_nil,List.append_nil] at hlt
      with_reducible (refine wpAny_execs_nil ?_;refine (by assumption:Nxt _ _ _ _ _ _ _) _ ?_;refine wpAny_execs_nil ?_;refine (by assumption:Imp _ _) _ _ ?_)
      refine mk3 _ [_,_] P₁' ⟨by assumption,fun _ h=>h,mk6 _ _ pv ov _ _ ⟨rfl,rfl,fun p hp=>hs _ (hP1 _ hp),by lia,by lia,?_,?_⟩⟩
      · rw [hlt];exact hpv
      · rw [hlt];exact hov'
  · intro vals' own' P' s3 S3 hx10
    refine ex6 hx10 ?_;clear hx10;intro v1 v2 pv ov ep eo hy13;refine an7 hy13 ?_;clear hy13;intro hx11 hx12 hP1 hpl hol hpv hov
    symm at hx11;subst hx11
    symm at hx12;subst hx12
    have hmin:min us1.length us2.length = min ps.length xs.length:=by rw [hu1,hu2]
    rw [hmin] at hpv hov
    have hk:keptOf ns (ps.take (min ps.length xs.length)) (xs.take (min ps.length xs.length)) = keptOf ns ps xs:=by
      unfold keptOf
      rw [zip_min]
    rw [hk] at hpv hov
    have S4:=S3.settle.settle
    have h':=h.mono fun p hp=>List.mem_cons_of_mem (Lp,listOf pv.toArray ep) (List.mem_cons_of_mem (Lo,listOf ov.toArray eo) (hP1 p hp))
    have hv':=TR.mono _ _ _ _ (fun p hp=>List.mem_cons_of_mem (Lp,listOf pv.toArray ep) (List.mem_cons_of_mem (Lo,listOf ov.toArray eo) (hP1 p hp))) hv
    have hov':=hov.mono fun v t h=>TR.mono _ _ _ _ (fun p hp=>List.mem_cons_of_mem (Lp,listOf pv.toArray ep) (List.mem_cons_of_mem (Lo,listOf ov.toArray eo) hp)) h
    have hie:((ps.zip xs).filter fun p=>!ns.contains p.1).isEmpty = decide (pv.length = 0):=by
      rw [hpv.length]
      unfold keptOf
      rw [List.length_map]
      cases (ps.zip xs).filter fun p=>!ns.contains p.1 <;> simp
    try dsimp only
    with_reducible (refine (by assumption:Nxt _ _ _ _ _ _ _) _ ?_;refine eI ‹_› ?_;intro _ _ _;refine wpAny_Return_some ?_;refine IfExpN ?_;intro _ _;refine wpAny_isTrue_Compare1 ?_ (by k_dflt rfl);refine callB1 ‹_› ‹_› (gn_len _) bt_len bt_ne_len mm9 ?_ (by k_dflt rfl);refine ev_lv ‹_› ‹_› LocV.a4 ?_)
    refine len_P ‹_› (.head _) (by lia) ?_
    intro s5 tk5 S5
    with_reducible (refine ev_int ‹_› ?_;intro _ _ _;refine PySem.P.gt_int ?_;refine wpAny_truthy_bool ?_;refine (by assumption:ImpG _ _) _ _ ?_)
    refine ifB (fun hb=>?_) (fun hb=>?_)
    · have hb':¬ pv.length = 0:=by have:=of_decide_eq_true hb;lia
      with_reducible (refine call4 ‹_› ‹_› (g_let_node _) (kp_let_node _) mm10 ?_ (by k_dflt rfl) (by k_dflt rfl) (by k_dflt rfl) (by k_dflt rfl);refine Attribute_any_ ?_ (by k_dflt rfl);refine Attribute_any_ ?_ (by k_dflt rfl);refine ev_lv ‹_› ‹_› LocV.a1 ?_;refine at_call_operator ‹_› ‹_› (by k_places) ?_;intro _ _ _ _;refine at_lam_label ‹_› ‹_› (by k_places) ?_;intro _ _ _;refine ev_lv ‹_› ‹_› LocV.a4 ?_;refine ev_lv ‹_› ‹_› LocV.a5 ?_;refine ev_lv ‹_› ‹_› LocV.a3 ?_;refine And.intro (St.kin ‹_›) ?_)
      refine useP (let_node (.head _) hpv (.tail _ (.head _)) (Nds.of hov') hv') ‹_› d3 u3 ?_
      intro r P3 s6 S6 hs6 hT
      with_reducible (refine (by assumption:Abr _ _) _ _ (by k_dflt rfl) ?_;refine (by assumption:Imp _ _) _ _ ?_)
      rw [hie,decide_eq_false hb',if_neg (by decide)]
      exact Ends.of (own':=[]) (P':=P3) S6 (fun p hp=>hs6 _ (.tail _ (.tail _ (hP1 _ hp)))) hT
    · have hb':pv.length = 0:=by have:=of_decide_eq_false hb;lia
      with_reducible (refine ev_lv ‹_› ‹_› LocV.a3 ?_;refine (by assumption:Abr _ _) _ _ (by k_dflt rfl) ?_;refine (by assumption:Imp _ _) _ _ ?_)
      rw [hie,decide_eq_true hb',if_pos rfl]
      exact Ends.of (own':=[]) ‹_› (fun p hp=>.tail _ (.tail _ (hP1 _ hp))) hv'
end
end
section
open PySem.Calls
theorem early_stop {items:List T} {i:Nat} {t:T} (h:i≤(early items).length) (ht:items[i]? = some t) (hs:isE t = false):i = (early items).length:=by
  rcases Nat.lt_or_ge i (early items).length with hl | hl
  · exfalso
    have e:=early_take items
    have h1:(early items)[i]? = some t:=by
      rw [e,List.getElem?_take_of_lt hl];exact ht
    have:=early_isE t (List.mem_of_getElem? h1)
    rw [hs] at this;cases this
  · lia
theorem early_end {items:List T} {i:Nat} (h:i≤(early items).length) (hs:¬ (i:Int) < (items.length:Int) - 1):i = (early items).length:=by
  have:=early_len items
  lia
theorem tw_ge {α:Type} (p:α→Bool):∀ (l:List α) (k:Nat),k≤l.length→(∀ x∈l.take k,p x = true)→k≤(l.takeWhile p).length
  | _,0,_,_=>Nat.zero_le _
  | x::r,k + 1,h,hp=>by
    have hx:=hp x (by rw [List.take_succ_cons];exact .head _)
    rw [List.takeWhile_cons,if_pos hx,List.length_cons]
    have:=tw_ge p r k (by simpa using h) fun y hy=>hp y (by rw [List.take_succ_cons];exact .tail _ hy)
    lia
  | [],k + 1,h,_=>by simp at h
theorem early_more {items:List T} {i:Nat} {t:T} (h:i≤(early items).length) (hi:(i:Int) < (items.length:Int) - 1) (ht:items[i]? = some t) (hs:isE t = true):i + 1≤(early items).length:=by
  unfold early
  refine tw_ge isE items.dropLast (i + 1) (by rw [List.length_dropLast];lia) fun x hx=>?_
  rw [List.dropLast_eq_take,List.take_take,Nat.min_eq_left (by lia),List.take_add_one,ht] at hx
  rcases List.mem_append.mp hx with hx | hx
  · have e:=early_take items
    have h2:items.take i = (early items).take i:=by rw [e,List.take_take,Nat.min_eq_left h]
    rw [h2] at hx
    exact early_isE x (List.mem_of_mem_take hx)
  · have:x = t:=by simpa using hx
    rw [this];exact hs
theorem isLet_false {c:Int→Nat} {t:T} (h:isLet t = false):turn c t = t:=by
  unfold turn
  split
  · rename_i l ps items xs
    have:¬ ps.length = xs.length:=fun e=>by simp [isLet,e] at h
    rw [if_neg this]
  · rfl
theorem isLet_true {t:T} (h:isLet t = true):∃ l ps b xs,t = .call (.lam l ps b) xs∧ps.length = xs.length:=by
  unfold isLet at h
  split at h
  · exact mk4 _ _ _ _ ⟨rfl,by simpa using h⟩
  · cases h
/-- a call's own code,at whatever address -/
noncomputable def PureC (w:World) (k:Nat) (P:Led) (f:Addr) (vs:List Value) (Out:Led→Value→Prop):Prop :=
  ∀ (c:Cx) (m:Str→Option Value) (own:Led) (s:Shared) (Q E:Value→Shared→Prop),St w c m own P s→c.A.depth + k < recursionLimit→c.A.units + 8 * k < cLine →
    (∀ r P' s',St w c m own P' s'→(∀ p∈P,p∈P')→Out P' r→Q r s')→codeAny (model rw_pq1024_01.row.prog w) c.A (.call (.ref f) ⟨vs,[]⟩) (fun r s'=>match r with | .ok (.ret v)=>Q v s' | .ok _=>False | .error e=>E e s') s
noncomputable def SetOk (cn:Int→Nat):T→Prop
  | .call (.lam _ _ (.seq items)) _=>∀ t∈items,∀ n v,t = .setl n v→cn n≠0
  | _=>True
theorem turn_other {c:Int→Nat} {l:Int} {ps:List Int} {b:T} {xs:List T} (h:b.kind≠9):turn c (.call (.lam l ps b) xs) = .call (.lam l ps b) xs:=by
  cases b <;> first | rfl | exact absurd rfl h
theorem kind9 {b:T} (h:b.kind = 9):∃ items,b = .seq items:=by cases b <;> first | exact ⟨_,rfl⟩ | cases h
theorem sk_item {w:World} {c:Cx} {m:Str→Option Value} {own P:Led} {s:Shared} {E Q:Value→Shared→Prop} {value slice:Expr} {d:Addr} {o:Obj} {kv:KV} {k:Int} {t:Tok} {v:Value} (S:St w c m own P s) (hm:(d,o)∈P) (ho:o.IsDictOf (IK w) kv) (hl:valueAt kv k = some v) (h:∀ s',St w c m own P s'→Q v s')
    (hs:subscripted slice false (.ref d) (.int k t) = operate [.ref d,.int k t] (getItem (.ref d) (.int k t))) :
    wpAny (model rw_pq1024_01.row.prog w) c.A (subscriptTail value slice (.ref d) (.int k t)) Q E s :=
  have hm':=List.mem_append_right own hm
  tail_any (kda_dict S.N hm' ho).typeIs slot_dict_getitem.lookup (kdt_getItem (knd:=IK w) S.N hm' ho (intKind_is _ _ _ _) hl (h _ (S.tok _))) hs
theorem p_cab {α:Type} {a b c:α}:[a,b,c].Perm [c,a,b]:=(List.Perm.cons _ (List.Perm.swap _ _ _)).trans (List.Perm.swap _ _ _)
theorem Nds.dropN {w:World} {P:Led}:∀ {vs:List Value} {ts:List T} (k:Nat),Nds w P vs ts→Nds w P (vs.drop k) (ts.drop k)
  | _,_,0,h=>h
  | _,_,_ + 1,.nil=>.nil
  | _,_,k + 1,.cons _ r=>r.dropN k
theorem Nds.takeN {w:World} {P:Led}:∀ {vs:List Value} {ts:List T} (k:Nat),Nds w P vs ts→Nds w P (vs.take k) (ts.take k)
  | _,_,0,_=>.nil
  | _,_,_ + 1,.nil=>.nil
  | _,_,k + 1,.cons h r=>.cons h (r.takeN k)
section
variable {w:World} {P:Led}
theorem turned {x a F:Addr} {t:T} {cn:Int→Nat} (h:Nd w P a t) (hx:FxObj w P x F) (hF:FSet w P F cn) (hz:t.size≤4000) (hok:SetOk cn t) :
    PureC w 20 P 491 [.ref x,.ref a] fun P' r=>TR w P' r (turn cn t):=by
  intro c m own s Q E S hdp hu ret
  have X:=S.X
  (refine enter (K:=hd.heap_39 _) rfl ‹_› (by k_is) (by k_is) (by first | exact bl1 ‹_› | lia) (by exact BindsTo.of_eq rfl) (by exact rfl) (by kernel_rfl) ?_ ‹_›)
  clear ret S
  intro c' s' gN hd' hu' S'
  dsimp only [List.map] at S'
  have d3:c'.A.depth + 10 < recursionLimit:=by first | exact bl ‹_› ‹_› (by exact rfl) | lia
  have d2:c'.A.depth + 2 < recursionLimit:=by first | exact bl ‹_› ‹_› (by exact rfl) | lia
  have d6:c'.A.depth + 6 < recursionLimit:=by first | exact bl ‹_› ‹_› (by exact rfl) | lia
  have u3:c'.A.units + 8 * 10 < cLine:=by first | exact bl ‹_› ‹_› (by exact rfl) | lia
  have u2:c'.A.units + 8 * 2 < cLine:=by first | exact bl ‹_› ‹_› (by exact rfl) | lia
  have u6:c'.A.units + 8 * 6 < cLine:=by first | exact bl ‹_› ‹_› (by exact rfl) | lia
  clear hdp hu hd' hu'
  refine ex2 hx ?_;clear hx;intro dx tf hy1;refine an2 hy1 ?_;clear hy1;intro hx1 hx2
  have same:∀ (P':Led) (s':Shared) m',St w c' m' [] P' s'→(∀ p∈P,p∈P')→turn cn t = t→Ends w c' P (fun cs P' r=>cs = []∧TR w P' r (turn cn t)) (.ref a) s':=fun P' s' m' S hs e=>(mk4 _ [] [] P' ⟨S,hs,rfl,a,rfl,by rw [e];exact h.mono hs⟩)
  with_reducible (refine nameQ ?_;intro _ _;refine eN ?_;intro _ _ _;refine If_N ?_;intro _ _;refine isTrue_or ?_;refine isTrue_not ?_;refine isTrue_plain ?_ (by k_dflt rfl);refine call1 ‹_› ‹_› (g_is_let _) (kp_is_let _) mm9 ?_ (by k_dflt rfl);refine ev_lv ‹_› ‹_› LocV.a1 ?_;refine And.intro (St.kin ‹_›) ?_)
  refine useP (is_let h hz) ‹_› d2 u2 ?_
  rintro r P0 s1 S1 hs1 rfl
  with_reducible (refine wpAny_truthy_bool ?_)
  refine ifB (fun hb=>?_) (fun hb=>?_)
  · have hb':isLet t = false:=by simpa using hb
    with_reducible (refine (by assumption:ImpG _ _) _ _ ?_;refine ite_tt ?_;refine eA ‹_› ?_;intro _ _ _;refine wpAny_Return_some ?_;refine ev_lv ‹_› ‹_› LocV.a1 ?_;refine (by assumption:Abr _ _) _ _ (by k_dflt rfl) ?_;refine (by assumption:Abr _ _) _ _ (by k_dflt rfl) ?_;refine (by assumption:Imp _ _) _ _ ?_)
    exact same _ _ _ ‹_› hs1 (isLet_false hb')
  have hb':isLet t = true:=by simpa using hb
  refine ex4 (isLet_true hb') ?_;intro l ps b xs hy3;refine an2 hy3 ?_;clear hy3;intro hx2 hlen
  symm at hx2;subst hx2
  clear hb hb'
  have h0:=h.mono hs1
  with_reducible (refine isTrue_or ?_;refine wpAny_isTrue_Compare1 ?_ (by k_dflt rfl);refine Attribute_any_ ?_ (by k_dflt rfl);refine Attribute_any_ ?_ (by k_dflt rfl);refine Attribute_any_ ?_ (by k_dflt rfl);refine ev_lv ‹_› ‹_› LocV.a1 ?_;refine at_call_operator ‹_› ‹_› (by k_places) ?_;intro _ _ _ _;refine at_lam_body ‹_› ‹_› (by k_places) ?_;intro _ _ _ _;refine at_kind ‹_› ‹_› (by k_places) (by first | assumption | exact rfl) ?_;intro _ _ _;refine ev_glob ‹_› ‹_› (g_SEQ _) mm10 ?_)
  by_cases hk:b.kind = 9
  rotate_left
  · refine ne_int_tt (by simpa using hk) ?_
    with_reducible (refine wpAny_truthy_bool ?_;refine ite_tt ?_;refine (by assumption:ImpG _ _) _ _ ?_;refine ite_tt ?_;refine eA ‹_› ?_;intro _ _ _;refine wpAny_Return_some ?_;refine ev_lv ‹_› ‹_› LocV.a1 ?_;refine (by assumption:Abr _ _) _ _ (by k_dflt rfl) ?_;refine (by assumption:Abr _ _) _ _ (by k_dflt rfl) ?_;refine (by assumption:Imp _ _) _ _ ?_)
    exact same _ _ _ ‹_› hs1 (turn_other hk)
  refine ex1 (kind9 hk) ?_;intro items hx4
  symm at hx4;subst hx4
  refine ne_int_ff (by exact rfl) ?_
  have hpl:ps.length≤4000:=by
    have:=len_sizes xs
    simp only [T.size] at hz;lia
  have hil:items.length≤4000:=by
    have:=len_sizes items
    simp only [T.size] at hz;lia
  clear hz
  with_reducible (refine wpAny_truthy_bool ?_;refine ite_ff ?_;refine isTrue_or_nil ?_;refine (by assumption:ImpG _ _) _ _ ?_;refine ite_ff ?_;refine wpAny_execs_nil ?_;refine (by assumption:Nxt _ _ _ _ _ _ _) _ ?_;refine eI ‹_› ?_;intro _ _ _;refine wpAny_Assign_Name ?_ (by k_dflt rfl);refine call1 ‹_› ‹_› (g_begun_late _) (kp_begun_late _) mm11 ?_ (by k_dflt rfl);refine ev_lv ‹_› ‹_› LocV.a1 ?_;refine And.intro (St.kin ‹_›) ?_)
  refine useP (begun_late h0 hpl) ‹_› d6 u6 ?_
  intro r P1 s2 S2 hs2 hx5
  refine ex1 hx5 ?_;clear hx5;intro d hy7;refine an2 hy7 ?_;clear hy7;intro hx6 hdk
  symm at hx6;subst hx6
  have h1:=h0.mono hs2
  have flag:OwnFlag:=⟨trivial⟩
  with_reducible (refine st_loc ‹_› ‹_› ?_;refine SetQ.i (SetL.there (SetL.there (SetL.hereN))) ?_;intro _ _;refine (by assumption:Nxt _ _ _ _ _ _ _) _ ?_;refine eI ‹_› ?_;intro _ _ _;refine wpAny_Assign_Name ?_ (by k_dflt rfl);refine Attribute_any_ ?_ (by k_dflt rfl);refine Attribute_any_ ?_ (by k_dflt rfl);refine Attribute_any_ ?_ (by k_dflt rfl);refine ev_lv ‹_› ‹_› LocV.a1 ?_;refine at_call_operator ‹_› ‹_› (by k_places) ?_;intro _ _ _ _;refine at_lam_body ‹_› ‹_› (by k_places) ?_;intro _ _ _ _;refine at_seq_items ‹_› ‹_› (by k_places) ?_;intro _ _ _ _ _ _ _;refine st_loc ‹_› ‹_› ?_;refine SetQ.i (SetL.there (SetL.there (SetL.there (SetL.hereN)))) ?_;intro _ _;refine (by assumption:Nxt _ _ _ _ _ _ _) _ ?_;refine eI ‹_› ?_;intro _ _ _;refine wpAny_Assign_Name ?_ (by k_dflt rfl);refine List_ ?_;refine sp0 ?_;refine nl_flag ‹_› ‹_› ?_ sl0;intro _ _ _;refine st_loc ‹_› ‹_› ?_;refine SetQ.i (SetL.there (SetL.there (SetL.there (SetL.there (SetL.hereN))))) ?_;intro _ _;refine (by assumption:Nxt _ _ _ _ _ _ _) _ ?_;refine eI ‹_› ?_;intro _ _ _;refine wpAny_Assign_Name ?_ (by k_dflt rfl);refine List_ ?_;refine sp0 ?_;refine nl_flag ‹_› ‹_› ?_ sl0;intro _ _ _;refine st_loc ‹_› ‹_› ?_;refine SetQ.i (SetL.there (SetL.there (SetL.there (SetL.there (SetL.there (SetL.hereN)))))) ?_;intro _ _;refine (by assumption:Nxt _ _ _ _ _ _ _) _ ?_;refine eI ‹_› ?_;intro _ _ _;refine wpAny_Assign_Name ?_ (by k_dflt rfl);refine List_ ?_;refine sp0 ?_;refine nl_flag ‹_› ‹_› ?_ sl0;intro _ _ _;refine st_loc ‹_› ‹_› ?_;refine SetQ.i (SetL.there (SetL.there (SetL.there (SetL.there (SetL.there (SetL.there (SetL.hereN))))))) ?_;intro _ _;refine (by assumption:Nxt _ _ _ _ _ _ _) _ ?_;refine eI ‹_› ?_;intro _ _ _;refine wpAny_Assign_Name ?_ (by k_dflt rfl);refine ev_int ‹_› ?_;intro _ _ _;refine st_loc ‹_› ‹_› ?_;refine SetQ.i (SetL.there (SetL.there (SetL.there (SetL.there (SetL.there (SetL.there (SetL.there (SetL.hereN)))))))) ?_;intro _ _;refine (by assumption:Nxt _ _ _ _ _ _ _) _ ?_;refine eI ‹_› ?_;intro _ _ _)
  clear flag
  rename_i l1 us1 e1 _ hl1 hn1 _ _ _ _ _ Nl _ _ _ _ _ _ _ Ll _ _ _ _ _ _ _ Rl _ _ _ _ _ _ _ _ tk0 _ _ _ _ _ _
  have hul:=hn1.length
  refine cutN gN (fun ns f s'=>f = .next∧∃ tki it nv lv rv en el er P2,(∀ p∈P1,p∈P2)∧St w c' (asg ns [some (.ref x),some (.ref a),some (.ref d),some (.ref l1),some (.ref Nl),some (.ref Ll),some (.ref Rl),some (.int (((early items).length:Nat):Int) tki),it]) [(Rl,listOf (rv:List Value).toArray er),(Ll,listOf (lv:List Value).toArray el),(Nl,listOf (nv:List Value).toArray en)] P2 s' ∧
    IntsAre nv (((early items).filter (tkn cn (lateOf ps xs))).map T.num)∧All2 (TR w P2) lv (((early items).filter (tkn cn (lateOf ps xs))).map T.valu)∧All2 (TR w P2) rv ((early items).filter fun t=>!tkn cn (lateOf ps xs) t)) ?_ ?_
  · intro Qm hqm
    refine whileR (fun k s=>∃ i tki it nv lv rv en el er P2,k = items.length - i∧i≤(early items).length∧(∀ p∈P1,p∈P2)∧St w c' (asg _ [some (.ref x),some (.ref a),some (.ref d),some (.ref l1),some (.ref Nl),some (.ref Ll),some (.ref Rl),some (.int ((i:Nat):Int) tki),it]) [(Rl,listOf (rv:List Value).toArray er),(Ll,listOf (lv:List Value).toArray el),(Nl,listOf (nv:List Value).toArray en)] P2 s ∧
      IntsAre nv (((items.take i).filter (tkn cn (lateOf ps xs))).map T.num)∧All2 (TR w P2) lv (((items.take i).filter (tkn cn (lateOf ps xs))).map T.valu)∧All2 (TR w P2) rv ((items.take i).filter fun t=>!tkn cn (lateOf ps xs) t)∧nv.length≤i∧lv.length≤i∧rv.length≤i) ?_ items.length _
      (mk10 0 tk0 none [] [] [] 0 0 0 P1 ⟨rfl,Nat.zero_le _,fun _ h=>h,St.pad 1 (vs:=[some (.ref x),some (.ref a),some (.ref d),some (.ref l1),some (.ref Nl),some (.ref Ll),some (.ref Rl),some (.int 0 tk0)]) ‹_›,.nil,.nil,.nil,Nat.le_refl _,Nat.le_refl _,Nat.le_refl _⟩)
    intro k s3 Qz hqz hx8
    refine ex10 hx8 ?_;clear hx8;intro i tki it nv lv rv en el er P2 hy10;refine an10 hy10 ?_;clear hy10;intro hx9 hie hP2 S3 hnv hlv hrv hn1' hl1' hr1'
    symm at hx9;subst hx9
    have hl2:=hP2 _ hl1
    have hx1':=hP2 _ (hs2 _ (hs1 _ hx1))
    have hx2':=hP2 _ (hs2 _ (hs1 _ hx2))
    have hdk':DK w P2 d (lateOf ps xs):=by obtain ⟨o,kv,a1,a2,a3,a4⟩:=hdk;exact ⟨o,kv,hP2 _ a1,a2,a3,a4⟩
    with_reducible (refine isTrue_and ?_;refine wpAny_isTrue_Compare1 ?_ (by k_dflt rfl);refine ev_lv ‹_› ‹_› LocV.a7 ?_;refine wpAny_BinOp ?_;refine callB1 ‹_› ‹_› (gn_len _) bt_len bt_ne_len mm12 ?_ (by k_dflt rfl);refine ev_lv ‹_› ‹_› LocV.a3 ?_)
    refine len_P ‹_› hl2 (by lia) ?_
    intro s4 tk4 S4
    with_reducible (refine ev_int ‹_› ?_;intro _ _ _;refine subS ‹_› ?_;intro _ _ _;refine PySem.P.lt_int ?_;refine wpAny_truthy_bool ?_)
    refine ifB (fun hb=>?_) (fun hb=>?_)
    rotate_left
    · have hei:=early_end hie (by have:=of_decide_eq_false hb;lia)
      with_reducible (refine (by assumption:ImpG _ _) _ _ ?_;refine ite_ff ?_;refine wpAny_execs_nil ?_;refine (by assumption:Imp _ _) _ _ ?_)
      exact ⟨rfl,mk9 _ _ _ _ _ _ _ _ P2 ⟨hP2,by rw [← hei];assumption,by rw [hei,← early_take] at hnv;exact hnv,by rw [hei,← early_take] at hlv;exact hlv,by rw [hei,← early_take] at hrv;exact hrv⟩⟩
    have hilt:(i:Int) < (items.length:Int) - 1:=by have:=of_decide_eq_true hb;lia
    obtain ⟨v,hv⟩:∃ v,us1[i]? = some v:=⟨us1[i]'(by lia),by simp⟩
    refine ex2 (hn1.get' hv) ?_;intro xa t hy12;refine an3 hy12 ?_;clear hy12;intro hx11 ht hNd
    symm at hx11;subst hx11
    have hNd':=hNd.mono hP2
    with_reducible (refine isTrue_and ?_;refine isTrue_plain ?_ (by k_dflt rfl);refine MethodCall_ ?_ (by k_dflt rfl);refine ev_lv ‹_› ‹_› LocV.a0 ?_)
    refine meth1 ‹_› hx1' hx2' (pg_Fixing w _) (fme_501 w) (isfn_484 w) (by exact rfl) (kpf_484 w) ?_ (by k_dflt rfl)
    with_reducible (refine Subscript_ ?_;refine ev_lv ‹_› ‹_› LocV.a3 ?_;refine ev_lv ‹_› ‹_› LocV.a7 ?_)
    refine li_item (St.isListP ‹_› hl2) (by lia) (by lia) (by simpa using hv) ?_ (by k_dflt rfl)
    refine ⟨St.kin ‹_›,?_⟩
    refine useP (is_early hNd') ‹_› d2 u2 ?_
    rintro r P3 s5 S5 hs5 rfl
    with_reducible (refine wpAny_truthy_bool ?_)
    refine ifB (fun hb2=>?_) (fun hb2=>?_)
    rotate_left
    · have hei:=early_stop hie ht hb2
      with_reducible (refine (by assumption:ImpG _ _) _ _ ?_;refine ite_ff ?_;refine wpAny_execs_nil ?_;refine (by assumption:Imp _ _) _ _ ?_)
      exact ⟨rfl,mk9 _ _ _ _ _ _ _ _ P3 ⟨fun p hp=>hs5 _ (hP2 _ hp),by rw [← hei];assumption,by rw [hei,← early_take] at hnv;exact hnv,by rw [hei,← early_take] at hlv;exact hlv.mono fun v t h=>TR.mono _ _ _ _ hs5 h,by rw [hei,← early_take] at hrv;exact hrv.mono fun v t h=>TR.mono _ _ _ _ hs5 h⟩⟩
    have hie':=early_more hie hilt ht hb2
    obtain ⟨n,tv,rfl⟩:∃ n tv,t = .setl n tv:=by cases t <;> first | exact ⟨_,_,rfl⟩ | cases hb2
    have hNd3:=hNd'.mono hs5
    have htk:items.take (i + 1) = items.take i ++ [.setl n tv]:=by rw [List.take_add_one,ht];rfl
    with_reducible (refine isTrue_and_nil ?_;refine (by assumption:ImpG _ _) _ _ ?_;refine ite_tt ?_;refine nameQ ?_;intro _ _;refine eN ?_;intro _ _ _;refine wpAny_Assign_Name ?_ (by k_dflt rfl);refine Subscript_ ?_;refine ev_lv ‹_› ‹_› LocV.a3 ?_;refine ev_lv ‹_› ‹_› LocV.a7 ?_)
    refine li_item (St.isListP ‹_› (hs5 _ hl2)) (by lia) (by lia) (by simpa using hv) ?_ (by k_dflt rfl)
    with_reducible (refine st_loc ‹_› ‹_› ?_;refine SetQ.i (SetL.a8) ?_;intro _ _;refine (by assumption:Nxt _ _ _ _ _ _ _) _ ?_;refine eI ‹_› ?_;intro _ _ _;refine If_N ?_;intro _ _)
    have hdk3:DK w P3 d (lateOf ps xs):=by obtain ⟨o,kv,a1,a2,a3,a4⟩:=hdk';exact ⟨o,kv,hs5 _ a1,a2,a3,a4⟩
    have hx13:=hs5 _ hx1'
    have hx23:=hs5 _ hx2'
    have toP3:∀ p∈P,p∈P3:=fun p hp=>hs5 _ (hP2 _ (hs2 _ (hs1 _ hp)))
    refine cutN gN (fun ns b s'=>b = tkn cn (lateOf ps xs) (.setl n tv)∧St w c' (asg ns [some (.ref x),some (.ref a),some (.ref d),some (.ref l1),some (.ref Nl),some (.ref Ll),some (.ref Rl),some (.int ((i:Nat):Int) tki),some (.ref xa)]) [(Rl,listOf rv.toArray er),(Ll,listOf lv.toArray el),(Nl,listOf nv.toArray en)] P3 s') ?_ ?_
    · intro Qm hqm
      with_reducible (refine isTrue_and ?_;refine wpAny_isTrue_Compare1 ?_ (by k_dflt rfl);refine Attribute_any_ ?_ (by k_dflt rfl);refine Attribute_any_ ?_ (by k_dflt rfl);refine ev_lv ‹_› ‹_› LocV.a8 ?_;refine at_setl_value ‹_› ‹_› (by k_places) ?_;intro _ _ _ _;refine at_kind ‹_› ‹_› (by k_places) (by first | assumption | exact rfl) ?_;intro _ _ _;refine ev_glob ‹_› ‹_› (g_LAMBDA _) mm13 ?_;refine eq_int ?_;refine wpAny_truthy_bool ?_)
      refine ifB (fun hb3=>?_) (fun hb3=>?_)
      rotate_left
      · with_reducible (refine (by assumption:ImpG _ _) _ _ ?_)
        exact ⟨by simp only [tkn,isLam,hb3,Bool.false_and],by assumption⟩
      with_reducible (refine isTrue_and ?_;refine wpAny_isTrue_Compare1 ?_ (by k_dflt rfl);refine Attribute_any_ ?_ (by k_dflt rfl);refine ev_lv ‹_› ‹_› LocV.a8 ?_;refine at_setl_number ‹_› ‹_› (by k_places) ?_;intro _ _ _;refine ev_lv ‹_› ‹_› LocV.a2 ?_)
      refine dk_in ‹_› hdk3 (by k_places) ?_
      intro s6 S6
      with_reducible (refine wpAny_truthy_bool ?_)
      refine ifB (fun hb4=>?_) (fun hb4=>?_)
      rotate_left
      · with_reducible (refine (by assumption:ImpG _ _) _ _ ?_)
        exact ⟨by simp only [tkn,isLam,hb3,hb4,Bool.false_and,Bool.true_and],by assumption⟩
      with_reducible (refine isTrue_and ?_;refine wpAny_isTrue_Compare1 ?_ (by k_dflt rfl);refine Subscript_ ?_;refine Attribute_any_ ?_ (by k_dflt rfl);refine Attribute_any_ ?_ (by k_dflt rfl);refine ev_lv ‹_› ‹_› LocV.a0 ?_)
      refine ga (pg_Fixing w _) (hh_Fixing w) (fi_Fixing_facts w) ‹_› hx13 hx23 rfl rfl ?_
      intro s7 S7
      refine ex6 hF ?_;clear hF;intro dF es nF dS oS kvS hy13;refine an6 hy13 ?_;clear hy13;intro hF1 hF2 hF3 hF4 hF5 hF6
      refine ga (pg_Facts w _) (hh_Facts w) (fi_Facts_set w) ‹_› (toP3 _ hF1) (toP3 _ hF2) hF3 rfl ?_
      intro s8 S8
      with_reducible (refine Attribute_any_ ?_ (by k_dflt rfl);refine ev_lv ‹_› ‹_› LocV.a8 ?_;refine at_setl_number ‹_› ‹_› (by k_places) ?_;intro _ _ _)
      refine ex1 (hF6 n (hok _ (List.mem_of_getElem? ht) n tv rfl)) ?_;intro tS htS
      refine sk_item ‹_› (toP3 _ hF4) hF5 htS ?_ (by k_dflt rfl)
      intro s9 S9
      with_reducible (refine ev_int ‹_› ?_;intro _ _ _;refine eq_int ?_;refine wpAny_truthy_bool ?_)
      have e1:(((cn n:Nat):Int) == 1) = (cn n == 1):=natbeq (cn n) 1
      rw [e1]
      have e2:tkn cn (lateOf ps xs) (.setl n tv) = (cn n == 1):=by simp only [tkn,isLam,hb3,hb4,Bool.true_and]
      refine ifB (fun hb5=>?_) (fun hb5=>?_)
      · with_reducible (refine isTrue_and_nil ?_;refine (by assumption:ImpG _ _) _ _ ?_)
        exact ⟨(e2.trans hb5).symm,by assumption⟩
      · with_reducible (refine (by assumption:ImpG _ _) _ _ ?_)
        exact ⟨(e2.trans hb5).symm,by assumption⟩
    · intro b s6 hx14
      refine an2 hx14 ?_;clear hx14;intro hx15 S6
      symm at hx15;subst hx15
      have hlv3:=hlv.mono fun v t h=>TR.mono _ _ _ _ hs5 h
      have hrv3:=hrv.mono fun v t h=>TR.mono _ _ _ _ hs5 h
      with_reducible (refine (by assumption:ImpG _ _) _ _ ?_)
      refine ifB (fun hb=>?_) (fun hb=>?_)
      · with_reducible (refine eA ‹_› ?_;intro _ _ _;refine wpAny_Expr_any ?_ (by k_dflt rfl) (by k_dflt rfl);refine MethodCall_ ?_ (by k_dflt rfl);refine ev_lv ‹_› ‹_› LocV.a4 ?_;refine lmeth ‹_› (by k_mem) PySem.F.slot_list_append PySem.F.type_list_append ?_;refine callWith_method1 ?_ (by k_dflt rfl) (by k_dflt rfl);refine sp1 ?_ (by k_dflt rfl);refine Attribute_any_ ?_ (by k_dflt rfl);refine ev_lv ‹_› ‹_› LocV.a8 ?_;refine at_setl_number ‹_› ‹_› (by k_places) ?_;intro _ _ _;refine sp0 ?_)
        refine app (St.perm (own':=[_,_,_]) ‹_› p_cab) (fits_le (by lia)) ?_
        intro s8 S8
        with_reducible (refine (by assumption:Nxt _ _ _ _ _ _ _) _ ?_;refine eA ‹_› ?_;intro _ _ _;refine wpAny_Expr_any ?_ (by k_dflt rfl) (by k_dflt rfl);refine MethodCall_ ?_ (by k_dflt rfl);refine ev_lv ‹_› ‹_› LocV.a5 ?_;refine lmeth ‹_› (by k_mem) PySem.F.slot_list_append PySem.F.type_list_append ?_;refine callWith_method1 ?_ (by k_dflt rfl) (by k_dflt rfl);refine sp1 ?_ (by k_dflt rfl);refine Attribute_any_ ?_ (by k_dflt rfl);refine ev_lv ‹_› ‹_› LocV.a8 ?_;refine at_setl_value ‹_› ‹_› (by k_places) ?_;intro _ _ _ _;refine sp0 ?_)
        rename_i vv _ hvv
        refine app (St.perm (own':=[_,_,_]) ‹_› p_cab) (fits_le (by lia)) ?_
        intro s11 S11
        have S12:=S11.perm (own':=[_,_,_]) p_cab
        with_reducible (refine (by assumption:Nxt _ _ _ _ _ _ _) _ ?_;refine wpAny_execs_nil ?_;refine (by assumption:Nxt _ _ _ _ _ _ _) _ ?_;refine eI ‹_› ?_;intro _ _ _;refine wpAny_Assign_Name ?_ (by k_dflt rfl);refine wpAny_BinOp ?_;refine ev_lv ‹_› ‹_› LocV.a7 ?_;refine ev_int ‹_› ?_;intro _ _ _;refine addS ‹_› ?_;intro _ _ _;refine st_loc ‹_› ‹_› ?_;refine SetQ.i (SetL.a7) ?_;intro _ _;refine (by assumption:Nxt _ _ _ _ _ _ _) _ ?_;refine wpAny_execs_nil ?_;refine (by assumption:Imp _ _) _ _ ?_)
        refine mk1 _ ⟨Nat.sub_lt_sub_left (by lia) (Nat.lt_succ_self i),mk10 (i + 1) _ _ _ _ _ _ _ _ P3 ⟨rfl,hie',fun p hp=>hs5 _ (hP2 _ hp),by assumption,?_,?_,?_,by simpa using hn1',by simpa using hl1',by lia⟩⟩
        · rw [htk,List.filter_append,List.map_append]
          simp only [List.filter_cons,hb,if_true,List.filter_nil,List.map_cons,List.map_nil,T.num]
          exact hnv.append (.cons _ _ .nil)
        · rw [htk,List.filter_append,List.map_append]
          simp only [List.filter_cons,hb,if_true,List.filter_nil,List.map_cons,List.map_nil,T.valu]
          exact hlv3.snoc ⟨_,rfl,hvv⟩
        · rw [htk,List.filter_append]
          simp only [List.filter_cons,hb,Bool.not_true,Bool.false_eq_true,if_false,List.filter_nil,List.append_nil]
          exact hrv3
      · with_reducible (refine eA ‹_› ?_;intro _ _ _;refine wpAny_Expr_any ?_ (by k_dflt rfl) (by k_dflt rfl);refine MethodCall_ ?_ (by k_dflt rfl);refine ev_lv ‹_› ‹_› LocV.a6 ?_;refine lmeth ‹_› (by k_mem) PySem.F.slot_list_append PySem.F.type_list_append ?_;refine callWith_method1 ?_ (by k_dflt rfl) (by k_dflt rfl);refine sp1 ?_ (by k_dflt rfl);refine ev_lv ‹_› ‹_› LocV.a8 ?_;refine sp0 ?_)
        refine app ‹_› (fits_le (by lia)) ?_
        intro s11 S11
        with_reducible (refine (by assumption:Nxt _ _ _ _ _ _ _) _ ?_;refine wpAny_execs_nil ?_;refine (by assumption:Nxt _ _ _ _ _ _ _) _ ?_;refine eI ‹_› ?_;intro _ _ _;refine wpAny_Assign_Name ?_ (by k_dflt rfl);refine wpAny_BinOp ?_;refine ev_lv ‹_› ‹_› LocV.a7 ?_;refine ev_int ‹_› ?_;intro _ _ _;refine addS ‹_› ?_;intro _ _ _;refine st_loc ‹_› ‹_› ?_;refine SetQ.i (SetL.a7) ?_;intro _ _;refine (by assumption:Nxt _ _ _ _ _ _ _) _ ?_;refine wpAny_execs_nil ?_;refine (by assumption:Imp _ _) _ _ ?_)
        refine mk1 _ ⟨Nat.sub_lt_sub_left (by lia) (Nat.lt_succ_self i),mk10 (i + 1) _ _ _ _ _ _ _ _ P3 ⟨rfl,hie',fun p hp=>hs5 _ (hP2 _ hp),by assumption,?_,?_,?_,by lia,by lia,by simpa using hr1'⟩⟩
        · rw [htk,List.filter_append,List.map_append]
          simp only [List.filter_cons,hb,Bool.false_eq_true,if_false,List.filter_nil,List.map_nil,List.append_nil]
          exact hnv
        · rw [htk,List.filter_append,List.map_append]
          simp only [List.filter_cons,hb,Bool.false_eq_true,if_false,List.filter_nil,List.map_nil,List.append_nil]
          exact hlv3
        · rw [htk,List.filter_append]
          simp only [List.filter_cons,hb,Bool.not_false,if_true,List.filter_nil]
          exact hrv3.snoc ⟨_,rfl,hNd3⟩
  intro f s3 hx16
  refine an2 hx16 ?_;clear hx16;intro hx17 hz18;refine ex9 hz18 ?_;clear hz18;intro tki it nv lv rv en el er P2 hy19;refine an5 hy19 ?_;clear hy19;intro hP2 S3 hnv hlv hrv
  symm at hx17;subst hx17
  have toP2:∀ p∈P,p∈P2:=fun p hp=>hP2 _ (hs2 _ (hs1 _ hp))
  have ht1:turn cn (.call (.lam l ps (.seq items)) xs) = turnL cn l ps items xs:=by
    show (if ps.length = xs.length then _ else _) = _
    rw [if_pos hlen]
  have hel:(early items).length≤4000:=Nat.le_trans (early_len items) (by lia)
  have hnl:nv.length≤4000:=by
    rw [hnv.length,List.length_map]
    exact Nat.le_trans (List.length_filter_le _ _) hel
  have hll:lv.length≤4000:=by
    rw [hlv.length,List.length_map]
    exact Nat.le_trans (List.length_filter_le _ _) hel
  have hrl:rv.length≤4000:=by
    rw [hrv.length]
    exact Nat.le_trans (List.length_filter_le _ _) hel
  have hNe:((early items).filter (tkn cn (lateOf ps xs))).isEmpty = decide (nv.length = 0):=by
    rw [hnv.length,List.length_map]
    cases (early items).filter (tkn cn (lateOf ps xs)) <;> simp
  try dsimp only
  with_reducible (refine (by assumption:Nxt _ _ _ _ _ _ _) _ ?_;refine eI ‹_› ?_;intro _ _ _;refine If_N ?_;intro _ _;refine wpAny_isTrue_Compare1 ?_ (by k_dflt rfl);refine callB1 ‹_› ‹_› (gn_len _) bt_len bt_ne_len mm12 ?_ (by k_dflt rfl);refine ev_lv ‹_› ‹_› LocV.a4 ?_)
  refine len_O ‹_› (by k_mem) (by lia) ?_
  intro s4 tk4 S4
  with_reducible (refine ev_int ‹_› ?_;intro _ _ _;refine eq_int ?_;refine wpAny_truthy_bool ?_;refine (by assumption:ImpG _ _) _ _ ?_)
  refine ifB (fun hb=>?_) (fun hb=>?_)
  · with_reducible (refine eA ‹_› ?_;intro _ _ _;refine wpAny_Return_some ?_;refine ev_lv ‹_› ‹_› LocV.a1 ?_;refine (by assumption:Abr _ _) _ _ (by k_dflt rfl) ?_;refine (by assumption:Abr _ _) _ _ (by k_dflt rfl) ?_;refine (by assumption:Imp _ _) _ _ ?_)
    have hz0:nv.length = 0:=by have:=eq_of_beq hb;lia
    refine Ends.of (own':=[_,_,_]) (P':=P2) ‹_› toP2 ⟨a,rfl,?_⟩
    rw [ht1]
    unfold turnL
    try dsimp only
    rw [hNe,decide_eq_true hz0,if_pos rfl]
    exact h.mono toP2
  · have hz0:¬ nv.length = 0:=fun e=>by rw [e] at hb;exact absurd hb (by decide)
    rename_i Sz
    have S5:=(Sz.perm (own':=[_,_,_]) p_cab).settle
    have S6:=(S5.perm (own':=[_,_]) (List.Perm.swap _ _ _)).settle.settle
    have hsub:∀ p∈P2,p∈(Rl,listOf rv.toArray er)::(Ll,listOf lv.toArray el)::(Nl,listOf nv.toArray en)::P2:=fun p hp=>.tail _ (.tail _ (.tail _ hp))
    have hl2:=hsub _ (hP2 _ hl1)
    have hx1':=hsub _ (toP2 _ hx1)
    have hx2':=hsub _ (toP2 _ hx2)
    clear S5 Sz S4 S3
    have hn2:=hn1.mono fun p hp=>hsub _ (hP2 p hp)
    with_reducible (refine wpAny_execs_nil ?_;refine (by assumption:Nxt _ _ _ _ _ _ _) _ ?_;refine eI ‹_› ?_;intro _ _ _;refine wpAny_Return_some ?_;refine MethodCall_ ?_ (by k_dflt rfl);refine ev_lv ‹_› ‹_› LocV.a0 ?_)
    refine meth3 ‹_› hx1' hx2' (pg_Fixing w _) (fmw_501 w) (isfn_498 w) (by exact rfl) (kpf_498 w) ?_ (by k_dflt rfl) (by k_dflt rfl) (by k_dflt rfl)
    with_reducible (refine ev_lv ‹_› ‹_› LocV.a1 ?_;refine ev_lv ‹_› ‹_› LocV.a4 ?_;refine call3 ‹_› ‹_› (g_Fix _) (kp_Fix _) mm14 ?_ (by k_dflt rfl) (by k_dflt rfl) (by k_dflt rfl);refine ev_lv ‹_› ‹_› LocV.a4 ?_;refine ev_lv ‹_› ‹_› LocV.a5 ?_;refine call1 ‹_› ‹_› (g_seq_of _) (kp_seq_of _) mm15 ?_ (by k_dflt rfl);refine wpAny_BinOp ?_;refine ev_lv ‹_› ‹_› LocV.a6 ?_;refine Subscript_ ?_;refine ev_lv ‹_› ‹_› LocV.a3 ?_;refine wpAny_Slice ?_;refine evalPart_some_step ?_;refine ev_lv ‹_› ‹_› LocV.a7 ?_;refine evalPart_none_step ?_;refine evalPart_none_step ?_)
    refine slice_up (xs:=us1) ‹_› (St.isListP ‹_› hl2) (.int _ _) .none (pick_from (by lia)) (by lia) ?_ (by k_dflt rfl) (by k_dflt exact fun _=>rfl)
    intro Ds s7 S7
    rw [Int.toNat_natCast] at S7
    refine add_l (xs:=rv) (ys:=us1.drop (early items).length) ‹_› (St.isListP ‹_› (by k_mem)) (St.isListP ‹_› (by k_mem)) (fits_le (by rw [List.length_drop];lia)) ?_
    intro D2 s8 S8
    with_reducible (refine And.intro (St.kin ‹_›) ?_)
    have hnr:Nds w ((D2,listOf (rv ++ us1.drop (early items).length).toArray 0)::(Ds,listOf (us1.drop (early items).length).toArray 0)::(Rl,listOf rv.toArray er)::(Ll,listOf lv.toArray el)::(Nl,listOf nv.toArray en)::P2) (rv ++ us1.drop (early items).length) (((early items).filter fun t=>!tkn cn (lateOf ps xs) t) ++ items.drop (early items).length) :=
      (Nds.of (hrv.mono fun v t h=>TR.mono _ _ _ _ (fun p hp=>.tail _ (.tail _ (hsub _ hp))) h)).append ((hn2.mono fun p hp=>.tail _ (.tail _ hp)).dropN _)
    refine useP (seq_of (.head _) hnr (by rw [← hnr.length,List.length_append,List.length_drop];lia)) ‹_› d6 u6 ?_
    intro r P4 s9 S9 hs9 hT
    with_reducible (refine And.intro (St.kin ‹_›) ?_)
    have hlv4:=hlv.mono fun v t h=>TR.mono _ _ _ _ (fun p hp=>hs9 _ (.tail _ (.tail _ (hsub _ hp)))) h
    refine useP (mk_fix (hs9 _ (.tail _ (.tail _ (.tail _ (.tail _ (.head _)))))) hnv (hs9 _ (.tail _ (.tail _ (.tail _ (.head _))))) (Nds.of hlv4) hT) ‹_› (by lia) (by lia) ?_
    intro r P5 s10 S10 hs10 hT2
    have h5:=h.mono fun p hp=>hs10 _ (hs9 _ (.tail _ (.tail _ (hsub _ (toP2 p hp)))))
    with_reducible (refine And.intro (St.kin ‹_›) ?_)
    refine useP (without h5 (hs10 _ (hs9 _ (.tail _ (.tail _ (.tail _ (.tail _ (.head _))))))) hnv hT2 hpl) ‹_› d3 u3 ?_
    intro r P6 s11 S11 hs11 hT3
    with_reducible (refine (by assumption:Abr _ _) _ _ (by k_dflt rfl) ?_;refine (by assumption:Imp _ _) _ _ ?_)
    refine Ends.of (own':=[]) (P':=P6) ‹_› (fun p hp=>hs11 _ (hs10 _ (hs9 _ (.tail _ (.tail _ (hsub _ (toP2 p hp))))))) ?_
    rw [ht1]
    unfold turnL
    try dsimp only
    rw [hNe,decide_eq_false hz0,if_neg (by decide)]
    exact hT3
end
end
section
open PySem.Calls
theorem instObj_inj {C C' d d':Addr} (h:instObj C d = instObj C' d'):C = C'∧d = d':=by
  simp only [instObj,Obj.mk.injEq,Value.ref.injEq,Option.some.injEq] at h
  exact ⟨h.1,h.2.1⟩
theorem dictOf_inj {es es':List DictEntry} {n n':Nat} (h:dictOf es n = dictOf es' n'):es = es':=by
  simp only [dictOf,Obj.mk.injEq,Data.dict.injEq] at h
  simpa using h.2.2.1.1
theorem listOf_inj {vs vs':List Value} {n n':Nat} (h:PySem.W.listOf vs.toArray n = PySem.W.listOf vs'.toArray n'):vs = vs':=by
  simp only [PySem.W.listOf,Obj.mk.injEq,Data.seq.injEq] at h
  simpa using h.2.2.1.1
noncomputable def Fun1 (P:Led):Prop:=∀ x o o',(x,o)∈P→(x,o')∈P→o = o'
theorem St.fun1 {w:World} {c:Cx} {m:Str→Option Value} {own P:Led} {s:Shared} (S:St w c m own P s):Fun1 P:=fun x o o' h h'=>by
  have h1:=S.inP h
  have h2:=S.inP h'
  rw [h1] at h2
  exact Option.some.inj h2
theorem IntsAre.uniq:∀ {vs:List Value} {ns ns':List Int},IntsAre vs ns→IntsAre vs ns'→ns = ns':=by
  intro vs ns ns' h
  induction h generalizing ns' with
  | nil=>intro h';cases h';rfl
  | cons i t _ ih=>intro h';cases h' with | cons _ _ r=>rw [ih r]
noncomputable def T.cls:T→Nat
  | .cint _=>66 | .cun=>66 | .loc _=>85 | .glob _=>104 | .setl _ _=>137 | .lam _ _ _=>184 | .call _ _=>217 | .seq _=>250 | .fix _ _ _=>283
noncomputable def NdI (w:World) (P:Led) (x:Addr):T→Prop
  | .cint i=>∃ d t k,(x,instObj 66 d)∈P∧(d,dictOf [ent w "value" t (.int (i.val:Int) k)] 1)∈P
  | .cun=>∃ d t,(x,instObj 66 d)∈P∧(d,dictOf [ent w "value" t (.ref 427)] 1)∈P
  | .loc n=>∃ d t k,(x,instObj 85 d)∈P∧(d,dictOf [ent w "number" t (.int n k)] 1)∈P
  | .glob n=>∃ d t k,(x,instObj 104 d)∈P∧(d,dictOf [ent w "symbol" t (.int n k)] 1)∈P
  | .setl n tv=>∃ d v t k t2,(x,instObj 137 d)∈P∧(d,dictOf [ent w "number" t (.int n k),ent w "value" t2 (.ref v)] 2)∈P∧Nd w P v tv
  | .lam l ps tb=>∃ d b pl t1 t2 t3 t4 k1 k3 vs e,(x,instObj 184 d)∈P∧(d,dictOf [ent w "label" t1 (.int l k1),ent w "params" t2 (.ref pl),ent w "rest" t3 (.int (-1) k3),ent w "body" t4 (.ref b)] 4)∈P∧(pl,listOf (vs:List Value).toArray e)∈P∧IntsAre vs ps∧Nd w P b tb
  | .call tf ts=>∃ d f ol t1 t2 vs e,(x,instObj 217 d)∈P∧(d,dictOf [ent w "operator" t1 (.ref f),ent w "operands" t2 (.ref ol)] 2)∈P∧(ol,listOf (vs:List Value).toArray e)∈P∧Nd w P f tf∧Nds w P vs ts
  | .seq ts=>∃ d ol t1 vs e,(x,instObj 250 d)∈P∧(d,dictOf [ent w "items" t1 (.ref ol)] 1)∈P∧(ol,listOf (vs:List Value).toArray e)∈P∧Nds w P vs ts
  | .fix ns ts tb=>∃ d nl ll b t1 t2 t3 vs us e e2,(x,instObj 283 d)∈P∧(d,dictOf [ent w "numbers" t1 (.ref nl),ent w "lambdas" t2 (.ref ll),ent w "body" t3 (.ref b)] 3)∈P∧(nl,listOf (us:List Value).toArray e2)∈P∧IntsAre us ns∧(ll,listOf (vs:List Value).toArray e)∈P∧Nds w P vs ts∧Nd w P b tb
theorem Nd.inv {w:World} {P:Led} {x:Addr} {t:T} (h:Nd w P x t):NdI w P x t:=by
  cases h with
  | cint h1 h2=>exact mk3 _ _ _ ⟨h1,h2⟩
  | cun h1 h2=>exact mk2 _ _ ⟨h1,h2⟩
  | loc h1 h2=>exact mk3 _ _ _ ⟨h1,h2⟩
  | glob h1 h2=>exact mk3 _ _ _ ⟨h1,h2⟩
  | setl h1 h2 h3=>exact mk5 _ _ _ _ _ ⟨h1,h2,h3⟩
  | lam h1 h2 h3 h4 h5=>exact mk11 _ _ _ _ _ _ _ _ _ _ _ ⟨h1,h2,h3,h4,h5⟩
  | call h1 h2 h3 h4 h5=>exact mk7 _ _ _ _ _ _ _ ⟨h1,h2,h3,h4,h5⟩
  | seq h1 h2 h3 h4=>exact mk5 _ _ _ _ _ ⟨h1,h2,h3,h4⟩
  | fix h1 h2 h3 h4 h5 h6 h7=>exact mk11 _ _ _ _ _ _ _ _ _ _ _ ⟨h1,h2,h3,h4,h5,h6,h7⟩
theorem NdI.cl {w:World} {P:Led} {x:Addr} {t:T} (h:NdI w P x t):∃ d,(x,instObj t.cls d)∈P:=by
  cases t with
  | cint i=>refine ex3 h ?_;intro d _ _ h;exact mk1 d h.1
  | cun=>refine ex2 h ?_;intro d _ h;exact mk1 d h.1
  | loc=>refine ex3 h ?_;intro d _ _ h;exact mk1 d h.1
  | glob=>refine ex3 h ?_;intro d _ _ h;exact mk1 d h.1
  | setl=>refine ex5 h ?_;intro d _ _ _ _ h;exact mk1 d h.1
  | lam=>refine ex11 h ?_;intro d _ _ _ _ _ _ _ _ _ _ h;exact mk1 d h.1
  | call=>refine ex7 h ?_;intro d _ _ _ _ _ _ h;exact mk1 d h.1
  | seq=>refine ex5 h ?_;intro d _ _ _ _ h;exact mk1 d h.1
  | fix=>refine ex11 h ?_;intro d _ _ _ _ _ _ _ _ _ _ h;exact mk1 d h.1
theorem cls_eq {w:World} {P:Led} (hf:Fun1 P) {x d:Addr} {k:Nat} {t:T} (h1:(x,instObj k d)∈P) (h:NdI w P x t):(k == t.cls) = true:=by
  refine ex1 h.cl ?_;intro d' h2
  exact beq_iff_eq.mpr (instObj_inj (hf _ _ _ h1 h2)).1
theorem no_cls {k m:Nat} {p:Prop} (e:(k == m) = true) (h:(k == m) = false):p:=by rw [h] at e;cases e
noncomputable def NdU (w:World) (P:Led) (a:Addr) (t:T):Prop:=∀ t',NdI w P a t'→t = t'
noncomputable def NdsU (w:World) (P:Led) (vs:List Value) (ts:List T):Prop:=∀ ts',Nds w P vs ts'→ts = ts'
section
variable {w:World} {P:Led} (hf:Fun1 P) {x d:Addr}
include hf
theorem u_cint {i:Fin 8} {t k:Tok} (h1:(x,instObj 66 d)∈P) (h2:(d,dictOf [ent w "value" t (.int (i.val:Int) k)] 1)∈P):NdU w P x (.cint i):=by
  intro t' h'
  have c:=cls_eq hf h1 h'
  cases t' with
  | cint j =>
    refine ex3 h' ?_;intro d' _ _ h;refine an2 h ?_;intro g1 g2
    have e:=(instObj_inj (hf _ _ _ h1 g1)).2
    subst e
    have:=dictOf_inj (hf _ _ _ h2 g2);simp at this;congr 1;exact Fin.ext (by lia)
  | cun =>
    refine ex2 h' ?_;intro d' _ h;refine an2 h ?_;intro g1 g2
    have e:=(instObj_inj (hf _ _ _ h1 g1)).2
    subst e
    have:=dictOf_inj (hf _ _ _ h2 g2);simp at this
  | _=>exact no_cls c rfl
theorem u_cun {t:Tok} (h1:(x,instObj 66 d)∈P) (h2:(d,dictOf [ent w "value" t (.ref 427)] 1)∈P):NdU w P x .cun:=by
  intro t' h'
  have c:=cls_eq hf h1 h'
  cases t' with
  | cint j =>
    refine ex3 h' ?_;intro d' _ _ h;refine an2 h ?_;intro g1 g2
    have e:=(instObj_inj (hf _ _ _ h1 g1)).2
    subst e
    have:=dictOf_inj (hf _ _ _ h2 g2);simp at this
  | cun=>rfl
  | _=>exact no_cls c rfl
theorem u_loc {n:Int} {t k:Tok} (h1:(x,instObj 85 d)∈P) (h2:(d,dictOf [ent w "number" t (.int n k)] 1)∈P):NdU w P x (.loc n):=by
  intro t' h'
  have c:=cls_eq hf h1 h'
  cases t' with
  | loc j =>
    refine ex3 h' ?_;intro d' _ _ h;refine an2 h ?_;intro g1 g2
    have e:=(instObj_inj (hf _ _ _ h1 g1)).2
    subst e
    have:=dictOf_inj (hf _ _ _ h2 g2);simp at this;rw [this.2.1]
  | _=>exact no_cls c rfl
theorem u_glob {n:Int} {t k:Tok} (h1:(x,instObj 104 d)∈P) (h2:(d,dictOf [ent w "symbol" t (.int n k)] 1)∈P):NdU w P x (.glob n):=by
  intro t' h'
  have c:=cls_eq hf h1 h'
  cases t' with
  | glob j =>
    refine ex3 h' ?_;intro d' _ _ h;refine an2 h ?_;intro g1 g2
    have e:=(instObj_inj (hf _ _ _ h1 g1)).2
    subst e
    have:=dictOf_inj (hf _ _ _ h2 g2);simp at this;rw [this.2.1]
  | _=>exact no_cls c rfl
theorem u_setl {v:Addr} {n:Int} {t k t2:Tok} {tv:T} (h1:(x,instObj 137 d)∈P) (h2:(d,dictOf [ent w "number" t (.int n k),ent w "value" t2 (.ref v)] 2)∈P) (ih:NdU w P v tv):NdU w P x (.setl n tv):=by
  intro t' h'
  have c:=cls_eq hf h1 h'
  cases t' with
  | setl n' tv' =>
    refine ex5 h' ?_;intro d' _ _ _ _ h;refine an3 h ?_;intro g1 g2 g3
    have e:=(instObj_inj (hf _ _ _ h1 g1)).2
    subst e
    have:=dictOf_inj (hf _ _ _ h2 g2);simp at this
    refine an3 this ?_;clear this;intro hx1 _ hx2
    refine an3 hx1 ?_;clear hx1;intro _ hx3 _
    subst hx3
    subst hx2
    rw [ih _ g3.inv]
  | _=>exact no_cls c rfl
theorem u_lam {b pl:Addr} {l:Int} {t1 t2 t3 t4 k1 k3:Tok} {vs:List Value} {e:Nat} {ps:List Int} {tb:T} (h1:(x,instObj 184 d)∈P)
    (h2:(d,dictOf [ent w "label" t1 (.int l k1),ent w "params" t2 (.ref pl),ent w "rest" t3 (.int (-1) k3),ent w "body" t4 (.ref b)] 4)∈P) (h3:(pl,listOf vs.toArray e)∈P) (h4:IntsAre vs ps) (ih:NdU w P b tb):NdU w P x (.lam l ps tb):=by
  intro t' h'
  have c:=cls_eq hf h1 h'
  cases t' with
  | lam l' ps' tb' =>
    refine ex11 h' ?_;intro d' _ _ _ _ _ _ _ _ _ _ h;refine an5 h ?_;intro g1 g2 g3 g4 g5
    have e:=(instObj_inj (hf _ _ _ h1 g1)).2
    subst e
    have:=dictOf_inj (hf _ _ _ h2 g2);simp at this
    refine an5 this ?_;clear this;intro hx4 hx5 _ _ hx6
    refine an3 hx4 ?_;clear hx4;intro _ hx7 _
    subst hx7
    refine an2 hx5 ?_;clear hx5;intro _ hx8
    subst hx8
    subst hx6
    have:=listOf_inj (hf _ _ _ h3 g3)
    subst this
    rw [IntsAre.uniq h4 g4,ih _ g5.inv]
  | _=>exact no_cls c rfl
theorem u_call {f ol:Addr} {t1 t2:Tok} {vs:List Value} {e:Nat} {tf:T} {ts:List T} (h1:(x,instObj 217 d)∈P) (h2:(d,dictOf [ent w "operator" t1 (.ref f),ent w "operands" t2 (.ref ol)] 2)∈P)
    (h3:(ol,listOf vs.toArray e)∈P) (ih:NdU w P f tf) (is:NdsU w P vs ts):NdU w P x (.call tf ts):=by
  intro t' h'
  have c:=cls_eq hf h1 h'
  cases t' with
  | call tf' ts' =>
    refine ex7 h' ?_;intro d' _ _ _ _ _ _ h;refine an5 h ?_;intro g1 g2 g3 g4 g5
    have e:=(instObj_inj (hf _ _ _ h1 g1)).2
    subst e
    have:=dictOf_inj (hf _ _ _ h2 g2);simp at this
    refine an3 this ?_;clear this;intro hx9 _ hx10
    refine an2 hx9 ?_;clear hx9;intro _ hx11
    subst hx11
    subst hx10
    have:=listOf_inj (hf _ _ _ h3 g3)
    subst this
    rw [ih _ g4.inv,is _ g5]
  | _=>exact no_cls c rfl
theorem u_seq {ol:Addr} {t1:Tok} {vs:List Value} {e:Nat} {ts:List T} (h1:(x,instObj 250 d)∈P) (h2:(d,dictOf [ent w "items" t1 (.ref ol)] 1)∈P) (h3:(ol,listOf vs.toArray e)∈P) (is:NdsU w P vs ts):NdU w P x (.seq ts):=by
  intro t' h'
  have c:=cls_eq hf h1 h'
  cases t' with
  | seq ts' =>
    refine ex5 h' ?_;intro d' _ _ _ _ h;refine an4 h ?_;intro g1 g2 g3 g4
    have e:=(instObj_inj (hf _ _ _ h1 g1)).2
    subst e
    have:=dictOf_inj (hf _ _ _ h2 g2);simp at this
    refine an2 this ?_;clear this;intro _ hx12
    subst hx12
    have:=listOf_inj (hf _ _ _ h3 g3)
    subst this
    rw [is _ g4]
  | _=>exact no_cls c rfl
theorem u_fix {nl ll b:Addr} {t1 t2 t3:Tok} {vs us:List Value} {e e2:Nat} {ns:List Int} {ts:List T} {tb:T} (h1:(x,instObj 283 d)∈P)
    (h2:(d,dictOf [ent w "numbers" t1 (.ref nl),ent w "lambdas" t2 (.ref ll),ent w "body" t3 (.ref b)] 3)∈P) (h3:(nl,listOf us.toArray e2)∈P) (h4:IntsAre us ns) (h5:(ll,listOf vs.toArray e)∈P) (is:NdsU w P vs ts) (ih:NdU w P b tb):NdU w P x (.fix ns ts tb):=by
  intro t' h'
  have c:=cls_eq hf h1 h'
  cases t' with
  | fix ns' ts' tb' =>
    refine ex11 h' ?_;intro d' _ _ _ _ _ _ _ _ _ _ h;refine an7 h ?_;intro g1 g2 g3 g4 g5 g6 g7
    have e:=(instObj_inj (hf _ _ _ h1 g1)).2
    subst e
    have:=dictOf_inj (hf _ _ _ h2 g2);simp at this
    refine an4 this ?_;clear this;intro hx13 hx14 _ hx15
    refine an2 hx13 ?_;clear hx13;intro _ hx16
    subst hx16
    refine an2 hx14 ?_;clear hx14;intro _ hx17
    subst hx17
    subst hx15
    have e1:=listOf_inj (hf _ _ _ h3 g3)
    have e2:=listOf_inj (hf _ _ _ h5 g5)
    subst e1 e2
    rw [IntsAre.uniq h4 g4,is _ g6,ih _ g7.inv]
  | _=>exact no_cls c rfl
theorem u_cons {a:Addr} {t:T} {vs:List Value} {ts:List T} (ih:NdU w P a t) (is:NdsU w P vs ts):NdsU w P (.ref a::vs) (t::ts):=by
  intro ts' h'
  cases h' with
  | cons h r=>rw [ih _ h.inv,is _ r]
end
theorem Nds.uniq {w:World} {P:Led} (hf:Fun1 P) {vs:List Value} {ts ts':List T} (h:Nds w P vs ts) (h':Nds w P vs ts'):ts = ts':=by
  refine (Nds.rec (motive_1:=fun a t _=>NdU w P a t) (motive_2:=fun vs ts _=>NdsU w P vs ts) (u_cint hf) (u_cun hf) (u_loc hf) (u_glob hf) (fun h1 h2 _ ih=>u_setl hf h1 h2 ih) (fun h1 h2 h3 h4 _ ih=>u_lam hf h1 h2 h3 h4 ih) (fun h1 h2 h3 _ _ ih is=>u_call hf h1 h2 h3 ih is) (fun h1 h2 h3 _ is=>u_seq hf h1 h2 h3 is) (fun h1 h2 h3 h4 h5 _ _ is ih=>u_fix hf h1 h2 h3 h4 h5 is ih) (fun ts' h=>by cases h;rfl) (fun _ _ ih is=>u_cons hf ih is) h:NdsU w P vs ts) ts' h'
theorem setn_valu (t:T):∀ n∈setn t.valu,n∈setn t:=by
  cases t <;> simp [T.valu,setn]
  intro n hn
  exact .inr hn
theorem setns_sub {a b:List T} (h:∀ t∈a,∀ n∈setn t,n∈setns b):∀ n∈setns a,n∈setns b:=by
  induction a with
  | nil=>intro n hn;cases hn
  | cons t r ih =>
    intro n hn
    rcases List.mem_append.mp hn with hn | hn
    · exact h t (.head _) n hn
    · exact ih (fun t ht=>h t (.tail _ ht)) n hn
theorem setn_seqOf (l:List T):∀ n∈setn (seqOf l),n∈setns l:=by
  match l with
  | []=>intro n hn;simpa [seqOf,setn] using hn
  | [t]=>intro n hn;simpa [seqOf,setns] using hn
  | _::_::_=>intro n hn;simpa [seqOf,setn] using hn
theorem setn_turnL (c:Int→Nat) (l:Int) (ps:List Int) (items xs:List T):∀ n∈setn (turnL c l ps items xs),n∈setn (T.call (.lam l ps (.seq items)) xs):=by
  intro n hn
  unfold turnL at hn
  dsimp only at hn
  split at hn
  · exact hn
  · generalize htk:(early items).filter (tkn c (lateOf ps xs)) = tk at hn
    generalize hrs:(early items).filter (fun t=>!tkn c (lateOf ps xs) t) = rs at hn
    have se:∀ t∈early items,t∈items:=fun t ht=>by
      have:=early_split items
      rw [← this];exact List.mem_append_left _ ht
    have hb:∀ n∈setn (T.fix (tk.map T.num) (tk.map T.valu) (seqOf (rs ++ items.drop (early items).length))),n∈setns items:=by
      intro n hn
      rcases List.mem_append.mp hn with hn | hn
      · refine setns_sub (fun t ht n hn=>?_) n hn
        refine ex1 (List.mem_map.mp ht) ?_;intro u hy19;refine an2 hy19 ?_;clear hy19;intro hu hx18
        subst hx18
        rw [← htk] at hu
        exact setns_mem (se u (List.mem_filter.mp hu).1) n (setn_valu u n hn)
      · refine setns_sub (fun t ht n hn=>?_) n (setn_seqOf _ n hn)
        rcases List.mem_append.mp ht with ht | ht
        · rw [← hrs] at ht;exact setns_mem (se t (List.mem_filter.mp ht).1) n hn
        · exact setns_mem (List.mem_of_mem_drop ht) n hn
    split at hn
    · exact List.mem_append_left _ (hb n hn)
    · rcases List.mem_append.mp hn with hn | hn
      · exact List.mem_append_left _ (hb n hn)
      · refine List.mem_append_right _ (setns_sub (fun t ht n hn=>?_) n hn)
        refine ex1 (List.mem_map.mp ht) ?_;intro p hy21;refine an2 hy21 ?_;clear hy21;intro hp hx20
        subst hx20
        exact setns_mem (List.of_mem_zip (List.mem_filter.mp hp).1).2 n hn
theorem setn_turn (c:Int→Nat) (t:T):∀ n∈setn (turn c t),n∈setn t:=turn_ind (M:=fun t u=>∀ n∈setn u,n∈setn t) c (fun l ps items xs _=>setn_turnL c l ps items xs) (fun _ _ h=>h) t
mutual
theorem setn_fixT (c:Int→Nat):∀ t:T,∀ n∈setn (fixT c t),n∈setn t
  | .setl k v,n,h=>by
    rcases List.mem_cons.mp h with rfl | h
    · exact .head _
    · exact .tail _ (setn_fixT c v n h)
  | .lam l ps b,n,h=>setn_fixT c b n h
  | .call f xs,n,h=>by
    have h1:=setn_turn c (.call (fixT c f) (fixTs c xs)) n h
    rcases List.mem_append.mp h1 with h1 | h1
    · exact List.mem_append_left _ (setn_fixT c f n h1)
    · exact List.mem_append_right _ (setn_fixTs c xs n h1)
  | .seq xs,n,h=>setn_fixTs c xs n h
  | .fix ns ls b,n,h=>by
    rcases List.mem_append.mp h with h1 | h1
    · exact List.mem_append_left _ (setn_fixTs c ls n h1)
    · exact List.mem_append_right _ (setn_fixT c b n h1)
  | .cint i,n,h=>h
  | .cun,n,h=>h
  | .loc k,n,h=>h
  | .glob k,n,h=>h
theorem setn_fixTs (c:Int→Nat):∀ l:List T,∀ n∈setns (fixTs c l),n∈setns l
  | [],n,h=>h
  | t::r,n,h=>by
    rcases List.mem_append.mp h with h1 | h1
    · exact List.mem_append_left _ (setn_fixT c t n h1)
    · exact List.mem_append_right _ (setn_fixTs c r n h1)
end
theorem setOk_of {cn:Int→Nat} {t:T} (h:∀ n∈setn t,cn n≠0):SetOk cn t:=by
  cases t with
  | call f xs =>
    cases f with
    | lam l ps b =>
      cases b with
      | seq items=>intro t ht n v e;subst e;exact h n (List.mem_append_left _ (setns_mem ht n (.head _)))
      | _=>trivial
    | _=>trivial
  | _=>trivial
end
section
open PySem.Calls
noncomputable def Refs (w:World) (P:Led) (v:Value):Prop:=∃ a t,v = .ref a∧Nd w P a t
theorem Nd.inst {w:World} {P:Led} {a:Addr} {t:T} (h:Nd w P a t):∃ C d,(a,instObj C d)∈P:=by
  cases h <;> exact ⟨_,_,by assumption⟩
theorem isnot_refs {w:World} {c:Cx} {m:Str→Option Value} {own P:Led} {s:Shared} {E Q:Value→Shared→Prop} {u v:Value} (S:St w c m own P s) (hu:Refs w P u) (hv:Refs w P v) (h1:u = v→Q (.bool false) s) (h2:u≠v→Q (.bool true) s) :
    wpAny (model rw_pq1024_01.row.prog w) c.A (compareOp .IsNot u v) Q E s:=by
  refine ex2 hu ?_;clear hu;intro x t hy2;refine an2 hy2 ?_;clear hy2;intro hx1 hx
  symm at hx1;subst hx1
  refine ex2 hv ?_;clear hv;intro y t' hy4;refine an2 hy4 ?_;clear hy4;intro hx3 hy
  symm at hx3;subst hx3
  by_cases e:x = y
  · subst e;exact wpAny_isNot_ref_self (h1 rfl)
  · refine ex2 (hx.inst) ?_;intro C d hx
    refine ex2 (hy.inst) ?_;intro C' d' hy
    exact wpAny_isNot_ref_other e (S.inP hx) (S.inP hy) (by simp [instObj]) (h2 (fun q=>e (by injection q)))
section
variable {w:World} {P:Led}
theorem same_list {l1 l2:Addr} {us vs:List Value} {e1 e2:Nat} (h1:(l1,listOf us.toArray e1)∈P) (h2:(l2,listOf vs.toArray e2)∈P) (hu:∀ v∈us,Refs w P v) (hv:∀ v∈vs,Refs w P v) (hz:us.length≤4000) (hz2:vs.length≤4000) :
    Pure w 4 P (call (.ref 292) [.ref l1,.ref l2]) fun _ r=>r = .bool (decide (us = vs)):=by
  intro c m own s Q E S hdp hu0 ret
  have X:=S.X
  refine wpAny_call ?_
  (refine enter (K:=hd.heap_39 _) rfl ‹_› (by k_is) (by k_is) (by first | exact bl1 ‹_› | omega) (by exact BindsTo.of_eq rfl) (by exact rfl) (by kernel_rfl) ?_ ‹_›)
  clear ret S
  intro c' s' gN hd' hu' S'
  dsimp only [List.map] at S'
  clear hdp hu0 hd' hu'
  with_reducible (refine nameQ ?_;intro _ _;refine eN ?_;intro _ _ _;refine If_N ?_;intro _ _;refine wpAny_isTrue_Compare1 ?_ (by k_dflt rfl);refine callB1 ‹_› ‹_› (gn_len _) bt_len bt_ne_len mm3 ?_ (by k_dflt rfl);refine ev_lv ‹_› ‹_› LocV.a0 ?_)
  refine len_P ‹_› h1 (by lia) ?_
  intro s1 tk1 S1
  with_reducible (refine callB1 ‹_› ‹_› (gn_len _) bt_len bt_ne_len mm3 ?_ (by k_dflt rfl);refine ev_lv ‹_› ‹_› LocV.a1 ?_)
  refine len_P ‹_› h2 (by lia) ?_
  intro s2 tk2 S2
  refine PyProof.Rows.ne_int ?_
  with_reducible (refine wpAny_truthy_bool ?_;refine (by assumption:ImpG _ _) _ _ ?_)
  refine ifB (fun hb=>?_) (fun hb=>?_)
  · with_reducible (refine eA ‹_› ?_;intro _ _ _;refine wpAny_Return_some ?_;refine PyProof.Rows.Constant_bool ?_;refine (by assumption:Abr _ _) _ _ (by k_dflt rfl) ?_;refine (by assumption:Abr _ _) _ _ (by k_dflt rfl) ?_;refine (by assumption:Imp _ _) _ _ ?_)
    refine Ends.of (own':=[]) (P':=P) ‹_› (fun _ h=>h) ?_
    have:¬ us = vs:=fun h=>by rw [h] at hb;exact absurd hb (by simp)
    rw [decide_eq_false this]
  have hll:us.length = vs.length:=by have:=bne_eq_false_iff_eq.mp hb;lia
  with_reducible (refine wpAny_execs_nil ?_;refine (by assumption:Nxt _ _ _ _ _ _ _) _ ?_;refine eI ‹_› ?_;intro _ _ _)
  refine For_ ‹_› ?_ (by k_dflt exact fun _=>rfl)
  with_reducible (refine callT ‹_› ‹_› (gn_range _) bt_range bt_ne_range mm4 ?_ (by k_dflt rfl);refine callB1 ‹_› ‹_› (gn_len _) bt_len bt_ne_len mm3 ?_ (by k_dflt rfl);refine ev_lv ‹_› ‹_› LocV.a0 ?_)
  refine len_P ‹_› h1 (by lia) ?_
  intro s3 tk3 S3
  refine forR (vals:=[some (.ref l1),some (.ref l2),none]) (k:=us.length) (St.pad 1 (vs:=[some (.ref l1),some (.ref l2)]) ‹_›) gN rfl (by lia) (fun i vals₁ own₁ P₁=>∃ v1,vals₁ = [some (.ref l1),some (.ref l2),v1]∧own₁ = []∧(∀ p∈P,p∈P₁)∧us.take i = vs.take i) ⟨none,rfl,rfl,fun _ h=>h,rfl⟩ ?_ ?_
  · intro i ti vals₁ own₁ P₁ P₁' W s₁ Qb hqb hi hx5 S hs
    refine ex1 hx5 ?_;clear hx5;intro v1 hy8;refine an4 hy8 ?_;clear hy8;intro hx6 hx7 hP1 htk
    symm at hx6;subst hx6
    symm at hx7;subst hx7
    refine SetQ.i (SetL.a2) ?_
    intro s4 S4
    have h1':=hs _ (hP1 _ h1)
    have h2':=hs _ (hP1 _ h2)
    obtain ⟨u,hu1⟩:∃ v,us[i]? = some v:=⟨us[i],by simp [hi]⟩
    obtain ⟨v,hv1⟩:∃ v,vs[i]? = some v:=⟨vs[i]'(by lia),by simp⟩
    with_reducible (refine eI ‹_› ?_;intro _ _ _;refine If_N ?_;intro _ _;refine wpAny_isTrue_Compare1 ?_ (by k_dflt rfl);refine Subscript_ ?_;refine ev_lv ‹_› ‹_› LocV.a0 ?_;refine ev_lv ‹_› ‹_› LocV.a2 ?_)
    refine li_item (St.isListP ‹_› h1') (by lia) (by lia) (by simpa using hu1) ?_ (by k_dflt rfl)
    with_reducible (refine Subscript_ ?_;refine ev_lv ‹_› ‹_› LocV.a1 ?_;refine ev_lv ‹_› ‹_› LocV.a2 ?_)
    refine li_item (St.isListP ‹_› h2') (by lia) (by lia) (by simpa using hv1) ?_ (by k_dflt rfl)
    have mo:∀ v,Refs w P v→Refs w P₁' v:=fun v ⟨a,t,e,h⟩=>⟨a,t,e,h.mono fun p hp=>hs _ (hP1 _ hp)⟩
    refine isnot_refs ‹_› (mo _ (hu _ (List.mem_of_getElem? hu1))) (mo _ (hv _ (List.mem_of_getElem? hv1))) (fun e=>?_) (fun e=>?_)
    · subst e
      with_reducible (refine wpAny_truthy_bool ?_;refine (by assumption:ImpG _ _) _ _ ?_;refine ite_ff ?_;refine wpAny_execs_nil ?_;refine (by assumption:Nxt _ _ _ _ _ _ _) _ ?_;refine wpAny_execs_nil ?_;refine (by assumption:Imp _ _) _ _ ?_)
      refine mk3 _ [] P₁' ⟨by assumption,fun _ h=>h,mk1 _ ⟨rfl,rfl,fun p hp=>hs _ (hP1 _ hp),?_⟩⟩
      rw [List.take_add_one,List.take_add_one,htk,hu1,hv1]
    · with_reducible (refine wpAny_truthy_bool ?_;refine (by assumption:ImpG _ _) _ _ ?_;refine ite_tt ?_;refine eA ‹_› ?_;intro _ _ _;refine wpAny_Return_some ?_;refine PyProof.Rows.Constant_bool ?_;refine (by assumption:Abr _ _) _ _ (by k_dflt rfl) ?_;refine (by assumption:Abr _ _) _ _ (by k_dflt rfl) ?_;refine (by assumption:Imp _ _) _ _ ?_;refine (by assumption:Abr _ _) _ _ (by k_dflt rfl) ?_;refine (by assumption:Imp _ _) _ _ ?_)
      refine Ends.of (own':=W) (P':=P₁') ‹_› (fun p hp=>hs _ (hP1 _ hp)) ?_
      have:¬ us = vs:=fun h=>e (by rw [h,hv1] at hu1;exact (Option.some.inj hu1).symm)
      rw [decide_eq_false this]
  · intro vals' own' P' s4 S4 hx9
    refine ex1 hx9 ?_;clear hx9;intro v1 hy12;refine an4 hy12 ?_;clear hy12;intro hx10 hx11 hP1 htk
    symm at hx10;subst hx10
    symm at hx11;subst hx11
    try dsimp only
    with_reducible (refine (by assumption:Nxt _ _ _ _ _ _ _) _ ?_;refine eI ‹_› ?_;intro _ _ _;refine wpAny_Return_some ?_;refine PyProof.Rows.Constant_bool ?_;refine (by assumption:Abr _ _) _ _ (by k_dflt rfl) ?_;refine (by assumption:Imp _ _) _ _ ?_)
    refine Ends.of (own':=[]) (P':=P') ‹_› hP1 ?_
    rw [List.take_length] at htk
    have:us = vs:=by rw [htk,hll,List.take_length]
    rw [decide_eq_true this]
noncomputable def withFn:T→Addr
  | .setl _ _=>134 | .lam _ _ _=>167 | .call _ _=>214 | .seq _=>247 | .fix _ _ _=>280 | _=>42
theorem with_of {a l:Addr} {t:T} {vs:List Value} {e:Nat} {ts:List T} (h:Nd w P a t) (hl:(l,listOf vs.toArray e)∈P) (hv:Nds w P vs ts) (hn:ts.length = t.kids.length) (hk:t.kids≠[]) (hf:noFix t = true) (hz:ts.length≤4000) :
    Pure w 6 P (call (.ref (withFn t)) [.ref a,.ref l]) fun P' r=>TR w P' r (t.wk ts):=by
  intro c m own s Q E S hdp hu0 ret
  have X:=S.X
  have d3:c.A.depth + 1 + 3 < recursionLimit:=by lia
  have u3:c.A.units + 3 + 8 * 3 < cLine:=by lia
  have hvl:=hv.length
  cases t
  case cint | cun | loc | glob=>exact absurd rfl hk
  case fix=>cases hf
  case setl n v =>
    obtain ⟨t1,rfl⟩:∃ t1,ts = [t1]:=List.length_eq_one_iff.mp hn
    cases hv with
    | cons hv1 hr =>
    cases hr
    dsimp only [withFn]
    refine wpAny_call ?_
    (refine enter (K:=hd.heap_39 _) rfl ‹_› (by k_is) (by k_is) (by first | exact bl1 ‹_› | omega) (by exact BindsTo.of_eq rfl) (by exact rfl) (by kernel_rfl) ?_ ‹_›)
    clear ret S
    intro c' s' gN hd' hu' S'
    dsimp only [List.map] at S'
    with_reducible (refine nameQ ?_;intro _ _;refine eN ?_;intro _ _ _;refine wpAny_Return_some ?_;refine call2 ‹_› ‹_› (g_SetLocal _) (kp_SetLocal _) mm2 ?_ (by k_dflt rfl) (by k_dflt rfl);refine Attribute_any_ ?_ (by k_dflt rfl);refine ev_lv ‹_› ‹_› LocV.a0 ?_;refine at_setl_number ‹_› ‹_› (by k_places) ?_;intro _ _ _;refine Subscript_ ?_;refine ev_lv ‹_› ‹_› LocV.a1 ?_;refine ev_int ‹_› ?_;intro _ _ _)
    refine li_item (St.isListP ‹_› hl) (by decide) (by decide) rfl ?_ (by k_dflt rfl)
    with_reducible (refine And.intro (St.kin ‹_›) ?_)
    refine useP (mk_setl ⟨_,rfl,hv1⟩) ‹_› (by lia) (by lia) ?_
    intro r P3 s3 S3 hs3 hT
    with_reducible (refine (by assumption:Abr _ _) _ _ (by k_dflt rfl) ?_;refine (by assumption:Imp _ _) _ _ ?_)
    exact Ends.of (own':=[]) (P':=P3) S3 hs3 hT
  case lam n ps v =>
    obtain ⟨t1,rfl⟩:∃ t1,ts = [t1]:=List.length_eq_one_iff.mp hn
    cases hv with
    | cons hv1 hr =>
    cases hr
    dsimp only [withFn]
    refine wpAny_call ?_
    (refine enter (K:=hd.heap_39 _) rfl ‹_› (by k_is) (by k_is) (by first | exact bl1 ‹_› | omega) (by exact BindsTo.of_eq rfl) (by exact rfl) (by kernel_rfl) ?_ ‹_›)
    clear ret S
    intro c' s' gN hd' hu' S'
    dsimp only [List.map] at S'
    with_reducible (refine nameQ ?_;intro _ _;refine eN ?_;intro _ _ _;refine wpAny_Return_some ?_;refine call4 ‹_› ‹_› (g_Lambda _) (kp_Lambda _) mm2 ?_ (by k_dflt rfl) (by k_dflt rfl) (by k_dflt rfl) (by k_dflt rfl);refine Attribute_any_ ?_ (by k_dflt rfl);refine ev_lv ‹_› ‹_› LocV.a0 ?_;refine at_lam_label ‹_› ‹_› (by k_places) ?_;intro _ _ _;refine Attribute_any_ ?_ (by k_dflt rfl);refine ev_lv ‹_› ‹_› LocV.a0 ?_;refine at_lam_params ‹_› ‹_› (by k_places) ?_;intro _ _ _ _ _ _ _;refine Attribute_any_ ?_ (by k_dflt rfl);refine ev_lv ‹_› ‹_› LocV.a0 ?_;refine at_lam_rest ‹_› ‹_› (by k_places) ?_;intro _ _ _;refine Subscript_ ?_;refine ev_lv ‹_› ‹_› LocV.a1 ?_;refine ev_int ‹_› ?_;intro _ _ _)
    refine li_item (St.isListP ‹_› hl) (by decide) (by decide) rfl ?_ (by k_dflt rfl)
    refine ⟨St.kin ‹_›,?_⟩
    refine useP (mk_lam ‹_› ‹_› ⟨_,rfl,hv1⟩) ‹_› (by lia) (by lia) ?_
    intro r P3 s3 S3 hs3 hT
    with_reducible (refine (by assumption:Abr _ _) _ _ (by k_dflt rfl) ?_;refine (by assumption:Imp _ _) _ _ ?_)
    exact Ends.of (own':=[]) (P':=P3) S3 hs3 hT
  case call f xs =>
    cases hv with
    | nil=>cases hn
    | cons hv1 hr =>
    dsimp only [withFn]
    refine wpAny_call ?_
    (refine enter (K:=hd.heap_39 _) rfl ‹_› (by k_is) (by k_is) (by first | exact bl1 ‹_› | omega) (by exact BindsTo.of_eq rfl) (by exact rfl) (by kernel_rfl) ?_ ‹_›)
    clear ret S
    intro c' s' gN hd' hu' S'
    dsimp only [List.map] at S'
    with_reducible (refine nameQ ?_;intro _ _;refine eN ?_;intro _ _ _;refine wpAny_Return_some ?_;refine call2 ‹_› ‹_› (g_Call _) (kp_Call _) mm2 ?_ (by k_dflt rfl) (by k_dflt rfl);refine Subscript_ ?_;refine ev_lv ‹_› ‹_› LocV.a1 ?_;refine ev_int ‹_› ?_;intro _ _ _)
    refine li_item (St.isListP ‹_› hl) (by decide) (by decide) rfl ?_ (by k_dflt rfl)
    with_reducible (refine Subscript_ ?_;refine ev_lv ‹_› ‹_› LocV.a1 ?_;refine wpAny_Slice ?_;refine evalPart_some_step ?_;refine ev_int ‹_› ?_;intro _ _ _;refine evalPart_none_step ?_;refine evalPart_none_step ?_)
    refine slice_up ‹_› (St.isListP ‹_› hl) (.int _ _) .none (pick_from (by decide)) (by lia) ?_ (by k_dflt rfl) (by k_dflt exact fun _=>rfl)
    intro Ds s7 S7
    with_reducible (refine And.intro (St.kin ‹_›) ?_)
    refine useP (mk_call ⟨_,rfl,hv1.mono fun p hp=>.tail _ hp⟩ (.head _) (hr.mono fun p hp=>.tail _ hp)) ‹_› (by lia) (by lia) ?_
    intro r P3 s3 S3 hs3 hT
    with_reducible (refine (by assumption:Abr _ _) _ _ (by k_dflt rfl) ?_;refine (by assumption:Imp _ _) _ _ ?_)
    exact Ends.of (own':=[]) (P':=P3) S3 (fun p hp=>hs3 _ (.tail _ hp)) hT
  case seq xs =>
    dsimp only [withFn]
    refine wpAny_call ?_
    (refine enter (K:=hd.heap_39 _) rfl ‹_› (by k_is) (by k_is) (by first | exact bl1 ‹_› | omega) (by exact BindsTo.of_eq rfl) (by exact rfl) (by kernel_rfl) ?_ ‹_›)
    clear ret S
    intro c' s' gN hd' hu' S'
    dsimp only [List.map] at S'
    with_reducible (refine nameQ ?_;intro _ _;refine eN ?_;intro _ _ _;refine wpAny_Return_some ?_;refine call1 ‹_› ‹_› (g_Seq _) (kp_Seq _) mm2 ?_ (by k_dflt rfl);refine ev_lv ‹_› ‹_› LocV.a1 ?_;refine And.intro (St.kin ‹_›) ?_)
    refine useP (mk_seq hl hv) ‹_› (by lia) (by lia) ?_
    intro r P3 s3 S3 hs3 hT
    with_reducible (refine (by assumption:Abr _ _) _ _ (by k_dflt rfl) ?_;refine (by assumption:Imp _ _) _ _ ?_)
    exact Ends.of (own':=[]) (P':=P3) S3 hs3 hT
end
end
section
open PySem.Calls
section
variable {w:World} {c:Cx} {m:Str→Option Value} {own P P₀:Led} {s:Shared} {E Q:Value→Shared→Prop}
theorem slice_upO {value slice:Expr} {l:Addr} {xs zs:List Value} {vl vu:Value} {lo hi:Option Int} (S:St w c m own P s) (hl:s.heap.IsList l xs.toArray) (pl:IsPart vl lo) (pu:IsPart vu hi) (e:kms_pick xs lo hi = zs) (hz:xs.length≤1000000)
    (h:∀ D s',St w c m ((D,listOf zs.toArray 0)::own) P s'→Q (.ref D) s')
    (hs:subscripted slice false (.ref l) (.ref s.heap.objs.size) = operate [.ref s.heap.objs.size,.ref l] (getItem (.ref l) (.ref s.heap.objs.size))) (ht:∀ r,letTemporaryGo value (.ref l) r = pure ()) :
    wpAny (model rw_pq1024_01.row.prog w) c.A (subscriptTail value slice (.ref l) (.ref s.heap.objs.size)) Q E { s with heap:=s.heap.push { cls:=.type "slice",data:=.fields #[vl,vu,.none] } } :=
  kms_slice_lit S.F S.N hl pl pu e (fun D h' F' N' lt=>h D _ (S.addO (tk:=s.toks) F' N' lt)) hs ht (by rw [List.size_toArray];exact fits_le hz)
theorem callLM {cn:Str} {a:Addr} {ccd:Value} {cl:List (Str × Addr)} {ns:List (Str × NameKind)} {mo:List (Str × Const)} {vals:List (Option Value)} {x:Str} {px pos:Pos} {q f:Addr} {self:Value} {e1:Expr} (S:St w c (asg ns vals) own P s) (g0:goodNs ns = true) (hl:LocQ ns vals x (fun v=>v = .ref q)) (hq:(q,methodObj (.ref f) self)∈P) (hf:fnIn (hd.heap_39 w.params) f = true)
    (h:wpAny (model rw_pq1024_01.row.prog w) c.A (eval e1 (envX cn (fnSc ns mo) c.L a ccd cl)) (fun v s1=>MethP (hd.heap_39 w.params) q f self s1.heap∧wpAny (model rw_pq1024_01.row.prog w) c.A (call (.ref q) [v]) Q E s1) E s)
    (he1:starEach [e1] (envX cn (fnSc ns mo) c.L a ccd cl) = [(false,eval e1 (envX cn (fnSc ns mo) c.L a ccd cl))]) :
    wpAny (model rw_pq1024_01.row.prog w) c.A (eval (.Call (.Name x px) [e1] [] pos) (envX cn (fnSc ns mo) c.L a ccd cl)) Q E s:=by
  refine ex1 hl ?_;clear hl;intro v hy2;refine an2 hy2 ?_;clear hy2;intro hl hx1
  subst hx1
  exact Call_ (ev_loc S g0 ⟨_,hl,callWith_M S.X S.N (List.mem_append_right _ hq) hf (args_cons (wpAny_mono h (fun v s1 h1=>args_nil h1) fun _ _ e=>e) he1) he1 rfl⟩)
theorem call_bm {q f:Addr} {self v:Value} {k:Nat} {Out:Led→Value→Prop} (S:St w c m own P s) (hq:(q,methodObj (.ref f) self)∈P) (h:PureC w k P f [self,v] Out) (hd:c.A.depth + k < recursionLimit) (hu:c.A.units + 8 * k < cLine) (ret:∀ r P' s',St w c m own P' s'→(∀ p∈P,p∈P')→Out P' r→Q r s') :
    wpAny (model rw_pq1024_01.row.prog w) c.A (call (.ref q) [v]) Q E s :=
  call_meth S.N (List.mem_append_right _ hq) (h c m own s Q E S hd hu ret)
theorem with_m {x:Addr} {t:T} {pl:Sem Bool} {pos:Pos} {env:Env} {e1:Expr} (S:St w c m own P s) (h:Nd w P₀ x t) (hs:∀ p∈P₀,p∈P) (hk:t.kids≠[]) (hf:noFix t = true)
    (k:wpAny (model rw_pq1024_01.row.prog w) c.A (eval e1 env) (fun v s1=>(hd.heap_39 w.params).In s1.heap∧wpAny (model rw_pq1024_01.row.prog w) c.A (call (.ref (withFn t)) [.ref x,v]) Q E s1) E s) (he:starEach [e1] env = [(false,eval e1 env)]) :
    wpAny (model rw_pq1024_01.row.prog w) c.A (getMethod (.ref x) (Str.ofString "with_parts") pl) (fun fx s₂=>wpAny (model rw_pq1024_01.row.prog w) c.A (callWith pos fx.1 fx.2 (backTo pos (starEach [e1] env)) []) Q E s₂) E s:=by
  have hN:=h.mono hs
  cases hN with
  | cint h1 h2=>exact absurd rfl hk
  | cun h1 h2=>exact absurd rfl hk
  | loc h1 h2=>exact absurd rfl hk
  | glob h1 h2=>exact absurd rfl hk
  | setl h1 h2 h3=>exact meth1 S h1 h2 (pg_SetLocal w _) (fwp_SetLocal w) (isfn_134 w) rfl (kpf_134 w) k he
  | lam h1 h2 h3 h4 h5=>exact meth1 S h1 h2 (pg_Lambda w _) (fwp_Lambda w) (isfn_167 w) rfl (kpf_167 w) k he
  | call h1 h2 h3 h4 h5=>exact meth1 S h1 h2 (pg_Call w _) (fwp_Call w) (isfn_214 w) rfl (kpf_214 w) k he
  | seq h1 h2 h3 h4=>exact meth1 S h1 h2 (pg_Seq w _) (fwp_Seq w) (isfn_247 w) rfl (kpf_247 w) k he
  | fix h1 h2 h3 h4 h5 h6 h7=>cases hf
end
theorem fnin_491 (w:World):fnIn (hd.heap_39 w.params) 491 = true:=by kernel_rfl
noncomputable abbrev Stk:=List (T × Bool)
noncomputable def Good (cn:Int→Nat) (r:T):Stk→List T→Prop
  | [],done=>done = [r]
  | (t,false)::ws,done=>Good cn r ws (done ++ [fixT cn t])
  | (t,true)::ws,done=>∃ d0,done = d0 ++ t.kids.map (fixT cn)∧Good cn r ws (d0 ++ [fixT cn t])
noncomputable def mu:Stk→Nat
  | []=>0
  | (t,false)::ws=>2 * t.size + mu ws
  | (_,true)::ws=>1 + mu ws
theorem good_kids {cn:Int→Nat} {r:T} {ws:Stk}:∀ {ks:List T} {done:List T},Good cn r ws (done ++ ks.map (fixT cn))→Good cn r (ks.map (fun k=>(k,false)) ++ ws) done
  | [],done,h=>by simpa using h
  | k::ks,done,h=>by
    show Good cn r (ks.map (fun k=>(k,false)) ++ ws) (done ++ [fixT cn k])
    exact good_kids (by simpa using h)
theorem mu_kids (ks:List T) (ws:Stk):mu (ks.map (fun k=>(k,false)) ++ ws) = 2 * sizes ks + mu ws:=by
  induction ks with
  | nil=>simp [sizes]
  | cons k ks ih=>simp only [List.map_cons,List.cons_append,mu,ih,sizes];lia
theorem len_mu:∀ ws:Stk,ws.length≤mu ws
  | []=>Nat.le_refl _
  | (t,false)::ws=>by have:=len_mu ws;have:=size_pos t;simp only [mu,List.length_cons];lia
  | (_,true)::ws=>by have:=len_mu ws;simp only [mu,List.length_cons];lia
/-- what the tree that is rebuilt keeps -/
structure OkT (cn:Int→Nat) (t:T):Prop where
  sc:∃ vis,Sc vis t
  st:∀ n∈setn t,cn n≠0
  sz:t.size≤1990
theorem OkT.noFix {cn:Int→Nat} {t:T} (h:OkT cn t):noFix t = true:=by
  refine ex1 (h.sc) ?_;intro vis h
  cases t <;> first | rfl | exact h.elim
theorem Scs_mem {vis:List Int}:∀ {l:List T} {t:T},Scs vis l→t∈l→Sc vis t
  | _::_,_,h,.head _=>h.1
  | _::_,_,h,.tail _ m=>Scs_mem h.2 m
theorem sc_kid {vis:List Int} {t k:T} (h:Sc vis t) (hk:k∈t.kids):∃ vis',Sc vis' k:=by
  cases t with
  | cint i=>cases hk
  | cun=>cases hk
  | loc n=>cases hk
  | glob n=>cases hk
  | setl n v=>cases List.mem_singleton.mp hk;exact ⟨_,h.2⟩
  | lam l ps b=>cases List.mem_singleton.mp hk;exact ⟨_,h⟩
  | call f xs =>
    rcases List.mem_cons.mp hk with rfl | hk
    · exact mk1 _ h.1
    · exact mk1 _ (Scs_mem h.2 hk)
  | seq xs=>exact ⟨_,Scs_mem h hk⟩
  | fix ns ls b=>exact h.elim
theorem OkT.kid {cn:Int→Nat} {t k:T} (h:OkT cn t) (hk:k∈t.kids):OkT cn k:=by
  refine ex1 (h.sc) ?_;intro vis hs
  exact ⟨sc_kid hs hk,fun n hn=>h.st n (setn_kid hk n hn),by have:=size_kid hk;have:=h.sz;lia⟩
theorem wk_size {c:Int→Nat} {t:T} (h:noFix t = true):(t.wk (t.kids.map (fixT c))).size≤2 * t.size:=by
  cases t with
  | cint i=>exact Nat.le_mul_of_pos_left _ (by decide)
  | cun=>exact Nat.le_mul_of_pos_left _ (by decide)
  | loc n=>exact Nat.le_mul_of_pos_left _ (by decide)
  | glob n=>exact Nat.le_mul_of_pos_left _ (by decide)
  | setl n v=>have:=size_fixT c v;show (T.setl n (fixT c v)).size≤_;simp only [T.size];lia
  | lam l ps b=>have:=size_fixT c b;show (T.lam l ps (fixT c b)).size≤_;simp only [T.size];lia
  | call f xs=>have h1:=size_fixT c f;have h2:=size_fixTs c xs;rw [fixTs_map] at h2;show (T.call (fixT c f) (xs.map (fixT c))).size≤_;simp only [T.size];lia
  | seq xs=>have h2:=size_fixTs c xs;rw [fixTs_map] at h2;show (T.seq (xs.map (fixT c))).size≤_;simp only [T.size];lia
  | fix ns ls b=>cases h
theorem wk_setn {c:Int→Nat} {t:T} (h:noFix t = true):∀ n∈setn (t.wk (t.kids.map (fixT c))),n∈setn t:=by
  cases t with
  | cint i=>exact fun _ h=>h
  | cun=>exact fun _ h=>h
  | loc n=>exact fun _ h=>h
  | glob n=>exact fun _ h=>h
  | setl k v =>
    intro n hn
    rcases List.mem_cons.mp hn with rfl | hn
    · exact .head _
    · exact .tail _ (setn_fixT c v n hn)
  | lam l ps b=>exact setn_fixT c b
  | call f xs =>
    intro n hn
    rcases List.mem_append.mp hn with hn | hn
    · exact List.mem_append_left _ (setn_fixT c f n hn)
    · exact List.mem_append_right _ (setn_fixTs c xs n (by rw [fixTs_map];exact hn))
  | seq xs=>exact fun n hn=>setn_fixTs c xs n (by rw [fixTs_map];exact hn)
  | fix ns ls b=>cases h
noncomputable def WR (w:World) (P:Led) (v:Value) (p:T × Bool):Prop:=∃ T a e,v = .ref T∧(T,tupOf [.ref a,.bool p.2] e)∈P∧Nd w P a p.1
theorem WR.mono {w:World} (P P':Led) (v:Value) (p:T × Bool) (hs:∀ p∈P,p∈P'):WR w P v p→WR w P' v p:=fun ⟨T,a,e,h1,h2,h3⟩=>⟨T,a,e,h1,hs _ h2,h3.mono hs⟩
theorem All2.snoc_inv {δ:Type} {R:Value→δ→Prop} {d:δ}:∀ {vs:List Value} {ds:List δ},All2 R vs (ds ++ [d])→∃ vs' v,vs = vs' ++ [v]∧All2 R vs' ds∧R v d:=by
  intro vs ds h
  have hl:=h.length
  rw [List.length_append,List.length_singleton] at hl
  have h1:=h.take ds.length
  have h2:=h.drop ds.length
  rw [List.take_left] at h1
  rw [List.drop_left] at h2
  refine mk1 (vs.take ds.length) ?_
  revert h2
  have e:=List.take_append_drop ds.length vs
  generalize vs.drop ds.length = r at e ⊢
  intro h2
  cases h2 with
  | cons a b =>
    cases b
    exact mk1 _ ⟨e.symm,h1,a⟩
end
section
open PySem.Calls
theorem All2.reverse {δ:Type} {R:Value→δ→Prop}:∀ {vs:List Value} {ds:List δ},All2 R vs ds→All2 R vs.reverse ds.reverse:=by
  intro vs ds h
  induction h with
  | nil=>exact .nil
  | cons h _ ih=>rw [List.reverse_cons,List.reverse_cons];exact ih.snoc h
theorem Nds.refs {w:World} {P:Led}:∀ {vs:List Value} {ts:List T},Nds w P vs ts→∀ v∈vs,Refs w P v:=fun h=>Nds.ind (M:=fun vs _=>∀ v∈vs,Refs w P v) (fun _ h=>nomatch h) (fun _ _ _ _ h _ ih v hv=>by
  rcases List.mem_cons.mp hv with rfl | hv
  · exact mk2 _ _ ⟨rfl,h⟩
  · exact ih v hv) h
section
variable {w:World} {P:Led}
theorem rebuilt_c {a q x F:Addr} {t:T} {cn:Int→Nat} (hN:Nd w P a t) (hq:(q,methodObj (.ref 491) (.ref x))∈P) (hx:FxObj w P x F) (hF:FSet w P F cn) (hok:OkT cn t) :
    Pure w 30 P (call (.ref 299) [.ref a,.ref q]) fun P' r=>TR w P' r (fixT cn t):=by
  intro c m own s Q E S hdp hu ret
  have X:=S.X
  refine wpAny_call ?_
  (refine enter (K:=hd.heap_39 _) rfl ‹_› (by k_is) (by k_is) (by first | exact bl1 ‹_› | omega) (by exact BindsTo.of_eq rfl) (by exact rfl) (by kernel_rfl) ?_ ‹_›)
  clear ret S
  intro c' s' gN hd' hu' S'
  dsimp only [List.map] at S'
  have d20:c'.A.depth + 20 < recursionLimit:=by first | exact bl ‹_› ‹_› (by exact rfl) | lia
  have u20:c'.A.units + 8 * 20 < cLine:=by first | exact bl ‹_› ‹_› (by exact rfl) | lia
  have d2:c'.A.depth + 2 < recursionLimit:=by first | exact bl ‹_› ‹_› (by exact rfl) | lia
  have u2:c'.A.units + 16 < cLine:=by first | exact bl ‹_› ‹_› (by exact rfl) | lia
  have d4:c'.A.depth + 4 < recursionLimit:=by first | exact bl ‹_› ‹_› (by exact rfl) | lia
  have u4:c'.A.units + 8 * 4 < cLine:=by first | exact bl ‹_› ‹_› (by exact rfl) | lia
  have d6:c'.A.depth + 6 < recursionLimit:=by first | exact bl ‹_› ‹_› (by exact rfl) | lia
  have u6:c'.A.units + 8 * 6 < cLine:=by first | exact bl ‹_› ‹_› (by exact rfl) | lia
  clear hdp hu hd' hu'
  have flag:OwnFlag:=⟨trivial⟩
  with_reducible (refine nameQ ?_;intro _ _;refine eN ?_;intro _ _ _;refine wpAny_Assign_Name ?_ (by k_dflt rfl);refine List_ ?_;refine sp0 ?_;refine nl_flag ‹_› ‹_› ?_ sl0;intro _ _ _;refine st_loc ‹_› ‹_› ?_;refine SetQ.i (SetL.there (SetL.there (SetL.hereN))) ?_;intro _ _;refine (by assumption:Nxt _ _ _ _ _ _ _) _ ?_;refine eI ‹_› ?_;intro _ _ _;refine wpAny_Assign_Name ?_ (by k_dflt rfl);refine List_ ?_;refine sp1 ?_ (by k_dflt rfl);refine Tuple_ ?_;refine sp1 ?_ (by k_dflt rfl);refine ev_lv ‹_› ‹_› LocV.a0 ?_;refine sp1 ?_ (by k_dflt rfl);refine PyProof.Rows.Constant_bool ?_;refine sp0 ?_;refine nt ‹_› ?_ sl2;intro _ _ _;refine sp0 ?_;refine nl_flag ‹_› ‹_› ?_ sl1;intro _ _ _;refine st_loc ‹_› ‹_› ?_;refine SetQ.i (SetL.there (SetL.there (SetL.there (SetL.hereN)))) ?_;intro _ _;refine (by assumption:Nxt _ _ _ _ _ _ _) _ ?_;refine eI ‹_› ?_;intro _ _ _)
  clear flag
  rename_i Dn0 _ _ _ _ _ _ _ T0 _ _ Wt _ _ _ _ _ _ _
  refine cutN gN (fun ns f s'=>f = .next∧∃ Dn dv wv en ew v1 v2 v3 v4 v5 v6 P2,(∀ p∈P,p∈P2)∧St w c' (asg ns [some (.ref a),some (.ref q),some (.ref Dn),some (.ref Wt),v1,v2,v3,v4,v5,v6]) [(Wt,listOf (wv:List Value).toArray ew),(Dn,listOf (dv:List Value).toArray en)] P2 s'∧All2 (TR w P2) dv [fixT cn t]) ?_ ?_
  · intro Qm hqm
    refine whileR (fun k s=>∃ ws done Dn dv wv en ew v1 v2 v3 v4 v5 v6 P2,k = mu ws∧(∀ p∈P,p∈P2)∧St w c' (asg _ [some (.ref a),some (.ref q),some (.ref Dn),some (.ref Wt),v1,v2,v3,v4,v5,v6]) [(Wt,listOf (wv:List Value).toArray ew),(Dn,listOf (dv:List Value).toArray en)] P2 s ∧
      All2 (WR w P2) wv ws.reverse∧All2 (TR w P2) dv done∧Good cn (fixT cn t) ws done∧(∀ p∈ws,OkT cn p.1)∧mu ws + done.length≤4000) ?_ (mu [(t,false)]) _
      (mk14 [(t,false)] [] Dn0 [] [.ref T0] 0 0 none none none none none none ((T0,tupOf [.ref a,.bool false] 0)::P) ⟨rfl,fun _ h=>List.mem_cons_of_mem _ h,St.pad 6 (vs:=[some (.ref a),some (.ref q),some (.ref Dn0),some (.ref Wt)]) ‹_›,.cons (mk3 T0 a 0 ⟨rfl,.head _,hN.mono fun _ h=>List.mem_cons_of_mem _ h⟩) .nil,.nil,rfl,fun p hp=>by rw [List.mem_singleton.mp hp];exact hok,by have:=hok.sz;simp [mu];lia⟩)
    intro k s3 Qz hqz hx1
    refine ex14 hx1 ?_;clear hx1;intro ws done Dn dv wv en ew v1 v2 v3 v4 v5 v6 P2 hy3;refine an8 hy3 ?_;clear hy3;intro hx2 hP2 S3 hwv hdv hg hoks hmu
    symm at hx2;subst hx2
    have hwl:=hwv.length
    have hdl:=hdv.length
    have hlm:=len_mu ws
    rw [List.length_reverse] at hwl
    with_reducible (refine wpAny_isTrue_Compare1 ?_ (by k_dflt rfl);refine callB1 ‹_› ‹_› (gn_len _) bt_len bt_ne_len mm10 ?_ (by k_dflt rfl);refine ev_lv ‹_› ‹_› LocV.a3 ?_)
    refine len_O ‹_› (by k_mem) (by lia) ?_
    intro s4 tk4 S4
    with_reducible (refine ev_int ‹_› ?_;intro _ _ _;refine PySem.P.gt_int ?_;refine wpAny_truthy_bool ?_;refine (by assumption:ImpG _ _) _ _ ?_)
    refine ifB (fun hb=>?_) (fun hb=>?_)
    rotate_left
    · have hws:ws = []:=List.length_eq_zero_iff.mp (by have:=of_decide_eq_false hb;lia)
      subst hws
      with_reducible (refine wpAny_execs_nil ?_;refine (by assumption:Imp _ _) _ _ ?_)
      refine ⟨rfl,mk12 _ _ _ _ _ _ _ _ _ _ _ P2 ⟨hP2,by assumption,?_⟩⟩
      have:done = [fixT cn t]:=hg
      rw [← this];exact hdv
    cases ws with
    | nil=>exact absurd (of_decide_eq_true hb) (by simp [hwl])
    | cons p ws =>
    obtain ⟨t',fl⟩:=p
    rw [List.reverse_cons] at hwv
    refine ex2 (hwv.snoc_inv) ?_;intro wv v hy7;refine an3 hy7 ?_;clear hy7;intro hx4 hwv1 hz6;refine ex3 hz6 ?_;clear hz6;intro T1 b eT hy8;refine an3 hy8 ?_;clear hy8;intro hx5 hT1 hNb
    symm at hx4;subst hx4
    symm at hx5;subst hx5
    have hok':=hoks (t',fl) (.head _)
    have hoks':∀ p∈ws,OkT cn p.1:=fun p hp=>hoks p (.tail _ hp)
    have hsz:=hok'.sz
    rw [List.length_append,List.length_singleton] at hwl
    have hwsl:ws.length≤4000:=by rw [List.length_cons] at hlm;lia
    with_reducible (refine nameQ ?_;intro _ _;refine eN ?_;intro _ _ _)
    refine Assign_Tuple ?_ (by k_dflt rfl) (by k_dflt rfl)
    dsimp only at hok' hNb hT1 hsz
    with_reducible (refine MethodCall_ ?_ (by k_dflt rfl);refine ev_lv ‹_› ‹_› LocV.a3 ?_;refine lmeth ‹_› (by k_mem) PySem.F.slot_list_pop PySem.F.type_list_pop ?_;refine callWith_method0 ?_)
    refine popL ‹_› (fits_le (by rw [List.length_append,List.length_singleton,hwl];lia)) ?_
    intro s5 S5
    refine asgF_pair (a:=.ref b) (b:=.bool fl) S5 gN ⟨_,S5.inP hT1,rfl,_,rfl⟩ ?_
    refine SetQ.i (SetL.a4) ?_
    refine SetQ.i (SetL.a5) ?_
    intro s6 S6
    clear S3 S4 S5
    with_reducible (refine (by assumption:Nxt _ _ _ _ _ _ _) _ ?_;refine eI ‹_› ?_;intro _ _ _;refine wpAny_Assign_Name ?_ (by k_dflt rfl);refine MethodCall_ ?_ (by k_dflt rfl);refine ev_lv ‹_› ‹_› LocV.a4 ?_)
    refine parts_m ‹_› hNb (by k_places) (by lia) d2 u2 ?_
    intro lp pv ep P3 s7 S7 hs7 hlp hpv
    have hpl:=hpv.length
    have hkl:=len_kids t'
    have hN3:Nd w P3 b t':=hNb.mono hs7
    have hx3:FxObj w P3 x F:=by obtain ⟨d,tf,a1,a2⟩:=hx;exact ⟨d,tf,hs7 _ (hP2 _ a1),hs7 _ (hP2 _ a2)⟩
    have hwv3:=hwv1.mono fun v p h=>WR.mono _ _ v p hs7 h
    have hdv3:=hdv.mono fun v p h=>TR.mono _ _ v p hs7 h
    with_reducible (refine st_loc ‹_› ‹_› ?_;refine SetQ.i (SetL.a6) ?_;intro _ _;refine (by assumption:Nxt _ _ _ _ _ _ _) _ ?_;refine eI ‹_› ?_;intro _ _ _;refine If_N ?_;intro _ _)
    refine cutN gN (fun ns bb s'=>bb = (!fl && decide (pv.length > 0))∧St w c' (asg ns [some (.ref a),some (.ref q),some (.ref Dn),some (.ref Wt),some (.ref b),some (.bool fl),some (.ref lp),v4,v5,v6]) [(Wt,listOf wv.toArray (ew + 1)),(Dn,listOf dv.toArray en)] P3 s') ?_ ?_
    · intro Qm hqm
      with_reducible (refine isTrue_and ?_;refine isTrue_not ?_;refine isTrue_plain ?_ (by k_dflt rfl);refine ev_lv ‹_› ‹_› LocV.a5 ?_;refine wpAny_truthy_bool ?_)
      refine ifB (fun hb=>?_) (fun hb=>?_)
      · with_reducible (refine isTrue_and ?_;refine wpAny_isTrue_Compare1 ?_ (by k_dflt rfl);refine callB1 ‹_› ‹_› (gn_len _) bt_len bt_ne_len mm10 ?_ (by k_dflt rfl);refine ev_lv ‹_› ‹_› LocV.a6 ?_)
        refine len_P ‹_› hlp (by lia) ?_
        intro s8 tk8 S8
        with_reducible (refine ev_int ‹_› ?_;intro _ _ _;refine PySem.P.gt_int ?_;refine wpAny_truthy_bool ?_)
        have e:decide (((pv.length:Nat):Int) > 0) = decide (pv.length > 0):=by simp
        rw [e]
        refine ifB (fun hb2=>?_) (fun hb2=>?_)
        · with_reducible (refine isTrue_and_nil ?_;refine (by assumption:ImpG _ _) _ _ ?_)
          exact ⟨by rw [hb,hb2];rfl,by assumption⟩
        · with_reducible (refine (by assumption:ImpG _ _) _ _ ?_)
          exact ⟨by rw [hb,hb2];rfl,by assumption⟩
      · with_reducible (refine (by assumption:ImpG _ _) _ _ ?_)
        exact ⟨by rw [hb];rfl,by assumption⟩
    intro bb s8 hx9
    refine an2 hx9 ?_;clear hx9;intro hx10 S8
    symm at hx10;subst hx10
    clear S6 S7
    with_reducible (refine (by assumption:ImpG _ _) _ _ ?_)
    refine ifB (fun hb=>?_) (fun hb=>?_)
    · have hb':fl = false∧pv.length > 0:=by
        rw [Bool.and_eq_true] at hb
        exact ⟨by simpa using hb.1,of_decide_eq_true hb.2⟩
      refine an2 hb' ?_;clear hb';intro hx11 hpp
      symm at hx11;subst hx11
      with_reducible (refine eA ‹_› ?_;intro _ _ _;refine wpAny_Expr_any ?_ (by k_dflt rfl) (by k_dflt rfl);refine MethodCall_ ?_ (by k_dflt rfl);refine ev_lv ‹_› ‹_› LocV.a3 ?_;refine lmeth ‹_› (by k_mem) PySem.F.slot_list_append PySem.F.type_list_append ?_;refine callWith_method1 ?_ (by k_dflt rfl) (by k_dflt rfl);refine sp1 ?_ (by k_dflt rfl);refine Tuple_ ?_;refine sp1 ?_ (by k_dflt rfl);refine ev_lv ‹_› ‹_› LocV.a4 ?_;refine sp1 ?_ (by k_dflt rfl);refine PyProof.Rows.Constant_bool ?_;refine sp0 ?_;refine nt ‹_› ?_ sl2;intro _ _ _;refine sp0 ?_)
      rename_i T2 _ _
      refine app ‹_› (fits_le (by lia)) ?_
      intro s9 S9
      clear S8
      with_reducible (refine (by assumption:Nxt _ _ _ _ _ _ _) _ ?_;refine eA ‹_› ?_;intro _ _ _)
      refine For_ ‹_› ?_ (by k_dflt exact fun _=>rfl)
      with_reducible (refine Subscript_ ?_;refine ev_lv ‹_› ‹_› LocV.a6 ?_;refine wpAny_Slice ?_;refine evalPart_none_step ?_;refine evalPart_none_step ?_;refine evalPart_some_step ?_;refine UnaryOp_ ?_;refine ev_int ‹_› ?_;intro _ _ _;refine negS ‹_› ?_;intro _ _ _)
      refine slice_rev ‹_› (St.isListP ‹_› (by k_mem)) (by lia) ?_ (by k_dflt rfl) (by k_dflt exact fun _=>rfl)
      intro Dr s10 S10
      have hrev:=(All2.ofNds' hpv).reverse
      refine forL S10 gN (.head _) (fun i vals₁ own₁ P₁=>∃ wv2 e2 u4,vals₁ = [some (.ref a),some (.ref q),some (.ref Dn),some (.ref Wt),some (.ref b),some (.bool false),some (.ref lp),u4,v5,v6]∧own₁ = [(Wt,listOf (wv2:List Value).toArray e2),(Dn,listOf dv.toArray en)]∧(∀ p∈P3,p∈P₁)∧All2 (WR w P₁) wv2 (ws.reverse ++ [(t',true)] ++ (t'.kids.reverse.take i).map (fun k=>(k,false))))
        (mk3 _ _ _ ⟨rfl,rfl,fun p hp=>.tail _ (.tail _ hp),?_⟩) ?_ ?_
      · rw [List.take_zero,List.map_nil,List.append_nil]
        have hP':∀ p∈P3,p∈(Dr,listOf pv.reverse.toArray 0)::(T2,tupOf [.ref b,.bool true] 0)::P3:=fun p hp=>.tail _ (.tail _ hp)
        have hw0:WR w ((Dr,listOf pv.reverse.toArray 0)::(T2,tupOf [.ref b,.bool true] 0)::P3) (.ref T2) (t',true):=(mk3 T2 b 0 ⟨rfl,.tail _ (.head _),hN3.mono hP'⟩)
        exact (hwv3.mono fun v p h=>WR.mono _ _ v p hP' h).snoc hw0
      · intro i v vals₁ own₁ P₁ P₁' W s₁ Qb hqb hi hv hx12 S hs
        refine ex3 hx12 ?_;clear hx12;intro wv2 e2 u4 hy15;refine an4 hy15 ?_;clear hy15;intro hx13 hx14 hP4 hw2
        symm at hx13;subst hx13
        symm at hx14;subst hx14
        refine ex1 (hrev.get hv) ?_;intro k hy18;refine an2 hy18 ?_;clear hy18;intro hk hz17;refine ex1 hz17 ?_;clear hz17;intro xk hy19;refine an2 hy19 ?_;clear hy19;intro hx16 hNk
        symm at hx16;subst hx16
        have hw2l:=hw2.length
        rw [List.length_reverse] at hi
        refine SetQ.i (SetL.a7) ?_
        intro s11 S11
        with_reducible (refine eI ‹_› ?_;intro _ _ _;refine wpAny_Expr_any ?_ (by k_dflt rfl) (by k_dflt rfl);refine MethodCall_ ?_ (by k_dflt rfl);refine ev_lv ‹_› ‹_› LocV.a3 ?_;refine lmeth ‹_› (by k_mem) PySem.F.slot_list_append PySem.F.type_list_append ?_;refine callWith_method1 ?_ (by k_dflt rfl) (by k_dflt rfl);refine sp1 ?_ (by k_dflt rfl);refine Tuple_ ?_;refine sp1 ?_ (by k_dflt rfl);refine ev_lv ‹_› ‹_› LocV.a7 ?_;refine sp1 ?_ (by k_dflt rfl);refine PyProof.Rows.Constant_bool ?_;refine sp0 ?_;refine nt ‹_› ?_ sl2;intro _ _ _;refine sp0 ?_)
        rename_i T3 _ _
        refine app ‹_› (fits_le (by rw [hw2l];simp;lia)) ?_
        intro s12 S12
        with_reducible (refine (by assumption:Nxt _ _ _ _ _ _ _) _ ?_;refine wpAny_execs_nil ?_;refine (by assumption:Imp _ _) _ _ ?_)
        refine mk3 _ [_,_] _ ⟨S12,fun p hp=>.tail _ hp,mk3 _ _ _ ⟨rfl,rfl,fun p hp=>.tail _ (hs _ (hP4 _ hp)),?_⟩⟩
        rw [List.take_add_one,hk,List.map_append,← List.append_assoc]
        exact (hw2.mono fun v p h=>WR.mono _ _ v p (fun p hp=>.tail _ (hs _ hp)) h).snoc (show WR w _ (.ref T3) (k,false) from (mk3 T3 xk 0 ⟨rfl,.head _,hNk.mono fun p hp=>.tail _ (hs _ (hP4 _ hp))⟩))
      · intro vals' own' P' s11 S11 hx20
        refine ex3 hx20 ?_;clear hx20;intro wv2 e2 u4 hy23;refine an4 hy23 ?_;clear hy23;intro hx21 hx22 hP4 hw2
        symm at hx21;subst hx21
        symm at hx22;subst hx22
        have hlr:pv.reverse.length = t'.kids.reverse.length:=by rw [List.length_reverse,List.length_reverse,hpl]
        rw [hlr,List.take_length] at hw2
        have hse:=size_eq t'
        try dsimp only
        with_reducible (refine (by assumption:Nxt _ _ _ _ _ _ _) _ ?_;refine wpAny_execs_nil ?_;refine (by assumption:Nxt _ _ _ _ _ _ _) _ ?_;refine wpAny_execs_nil ?_;refine (by assumption:Imp _ _) _ _ ?_)
        refine mk1 (mu (t'.kids.map (fun k=>(k,false)) ++ (t',true)::ws)) ⟨by rw [mu_kids];simp only [mu];lia,mk14 (t'.kids.map (fun k=>(k,false)) ++ (t',true)::ws) done _ _ _ _ _ _ _ _ _ _ _ P' ⟨rfl,fun p hp=>hP4 _ (hs7 _ (hP2 _ hp)),by assumption,?_,hdv3.mono fun v p h=>TR.mono _ _ v p hP4 h,good_kids ⟨done,rfl,hg⟩,?_,?_⟩⟩
        · rw [List.reverse_append,List.reverse_cons,← List.map_reverse];exact hw2
        · intro p hp
          rcases List.mem_append.mp hp with hp | hp
          · refine ex1 (List.mem_map.mp hp) ?_;intro k hy25;refine an2 hy25 ?_;clear hy25;intro hk hx24
            symm at hx24;subst hx24
            exact hok'.kid hk
          · rcases List.mem_cons.mp hp with rfl | hp
            · exact hok'
            · exact hoks' p hp
        · rw [mu_kids];simp only [mu] at hmu ⊢;lia
    · have hg':∃ d0,done = d0 ++ t'.kids.map (fixT cn)∧Good cn (fixT cn t) ws (d0 ++ [fixT cn t']):=by
        cases fl with
        | true=>exact hg
        | false =>
          have hk:t'.kids = []:=List.length_eq_zero_iff.mp (by
            have:¬ pv.length > 0:=by simpa using hb
            lia)
          refine mk1 done ⟨by rw [hk];simp,hg⟩
      have hmu2:mu ws + 1≤mu ((t',fl)::ws):=by
        cases fl with
        | true=>simp only [mu];lia
        | false=>have:=size_pos t';simp only [mu];lia
      refine ex1 hg' ?_;clear hg';intro d0 hy26;refine an2 hy26 ?_;clear hy26;intro hd0 hg2
      clear hg hb
      have hdd:dv.length = d0.length + t'.kids.length:=by rw [hdl,hd0,List.length_append,List.length_map]
      with_reducible (refine eA ‹_› ?_;intro _ _ _;refine wpAny_Assign_Name ?_ (by k_dflt rfl);refine wpAny_BinOp ?_;refine callB1 ‹_› ‹_› (gn_len _) bt_len bt_ne_len mm10 ?_ (by k_dflt rfl);refine ev_lv ‹_› ‹_› LocV.a2 ?_)
      refine len_O ‹_› (by k_mem) (by lia) ?_
      intro s9 tk9 S9
      with_reducible (refine callB1 ‹_› ‹_› (gn_len _) bt_len bt_ne_len mm10 ?_ (by k_dflt rfl);refine ev_lv ‹_› ‹_› LocV.a6 ?_)
      refine len_P ‹_› hlp (by lia) ?_
      intro s10 tk10 S10
      with_reducible (refine subS ‹_› ?_;intro _ _ _;refine st_loc ‹_› ‹_› ?_;refine SetQ.i (SetL.a8) ?_;intro _ _;refine (by assumption:Nxt _ _ _ _ _ _ _) _ ?_;refine eA ‹_› ?_;intro _ _ _;refine wpAny_Assign_Name ?_ (by k_dflt rfl);refine Subscript_ ?_;refine ev_lv ‹_› ‹_› LocV.a2 ?_;refine wpAny_Slice ?_;refine evalPart_some_step ?_;refine ev_lv ‹_› ‹_› LocV.a8 ?_;refine evalPart_none_step ?_;refine evalPart_none_step ?_)
      have hfi:(((dv.length:Nat):Int) - ((pv.length:Nat):Int)) = ((d0.length:Nat):Int):=by lia
      refine slice_up ‹_› (St.isListO ‹_› (by k_mem)) (.int _ _) .none (pick_from (by lia)) (by lia) ?_ (by k_dflt rfl) (by k_dflt exact fun _=>rfl)
      intro Df s11 S11
      have hft:(((dv.length:Nat):Int) - ((pv.length:Nat):Int)).toNat = d0.length:=by lia
      rw [hft] at S11
      have hfv0:All2 (TR w P3) (dv.drop d0.length) (t'.kids.map (fixT cn)):=by
        have:=hdv3.drop d0.length
        rw [hd0,List.drop_left] at this
        exact this
      have hdt0:All2 (TR w P3) (dv.take d0.length) d0:=by
        have:=hdv3.take d0.length
        rw [hd0,List.take_left] at this
        exact this
      generalize dv.drop d0.length = fv at S11 hfv0
      have hfl:=hfv0.length
      rw [List.length_map] at hfl
      with_reducible (refine st_loc ‹_› ‹_› ?_;refine SetQ.i (SetL.a9) ?_;intro _ _;refine (by assumption:Nxt _ _ _ _ _ _ _) _ ?_;refine eA ‹_› ?_;intro _ _ _;refine wpAny_Assign_Name ?_ (by k_dflt rfl);refine Subscript_ ?_;refine ev_lv ‹_› ‹_› LocV.a2 ?_;refine wpAny_Slice ?_;refine evalPart_none_step ?_;refine evalPart_some_step ?_;refine ev_lv ‹_› ‹_› LocV.a8 ?_;refine evalPart_none_step ?_)
      refine slice_upO ‹_› (St.isListO ‹_› (by k_mem)) .none (.int _ _) (pick_to (by lia)) (by lia) ?_ (by k_dflt rfl) (by k_dflt exact fun _=>rfl)
      intro D2 s12 S12
      rw [hft] at S12
      have S13:=(S12.perm (own':=[_,_,_]) p_cab).drop.perm (own':=[_,_]) (List.Perm.swap _ _ _)
      generalize dv.take d0.length = dt at S12 S13 hdt0
      clear S8 S9 S10 S11 S12
      have hfv:=(Nds.of hfv0).mono fun p hp=>List.mem_cons_of_mem (Df,listOf fv.toArray 0) hp
      have hpv1:=hpv.mono fun p hp=>List.mem_cons_of_mem (Df,listOf fv.toArray 0) hp
      have hN4:=hN3.mono fun p hp=>List.mem_cons_of_mem (Df,listOf fv.toArray 0) hp
      with_reducible (refine st_loc ‹_› ‹_› ?_;refine SetQ.i (SetL.a2) ?_;intro _ _;refine (by assumption:Nxt _ _ _ _ _ _ _) _ ?_;refine eA ‹_› ?_;intro _ _ _)
      refine cutN gN (fun ns f s'=>f = .next∧∃ P4 b' u1 u2 u3 u4,St w c' (asg ns [some (.ref a),some (.ref q),some (.ref D2),some (.ref Wt),some (.ref b'),u1,u2,u3,u4,some (.ref Df)]) [(Wt,listOf wv.toArray (ew + 1)),(D2,listOf dt.toArray 0)] P4 s'∧(∀ p∈P3,p∈P4)∧Nd w P4 b' (t'.wk (t'.kids.map (fixT cn)))) ?_ ?_
      · intro Qm hqm
        with_reducible (refine If_N ?_;intro _ _;refine isTrue_not ?_;refine isTrue_plain ?_ (by k_dflt rfl);refine call2 ‹_› ‹_› (g_are_same_list _) (kp_are_same_list _) mm11 ?_ (by k_dflt rfl) (by k_dflt rfl);refine ev_lv ‹_› ‹_› LocV.a6 ?_;refine ev_lv ‹_› ‹_› LocV.a9 ?_;refine And.intro (St.kin ‹_›) ?_)
        refine useP (same_list (.tail _ hlp) (.head _) hpv1.refs hfv.refs (by lia) (by lia)) ‹_› d4 u4 ?_
        rintro r P4 s14 S14 hs14 rfl
        with_reducible (refine wpAny_truthy_bool ?_;refine (by assumption:ImpG _ _) _ _ ?_)
        refine ifB (fun hb=>?_) (fun hb=>?_)
        · have hne:¬ pv = fv:=fun e=>by rw [decide_eq_true e] at hb;cases hb
          have hk0:t'.kids≠[]:=fun e=>by
            rw [e] at hpl hfl
            exact hne (by rw [List.length_eq_zero_iff.mp hpl,List.length_eq_zero_iff.mp hfl])
          with_reducible (refine eI ‹_› ?_;intro _ _ _;refine wpAny_Assign_Name ?_ (by k_dflt rfl);refine MethodCall_ ?_ (by k_dflt rfl);refine ev_lv ‹_› ‹_› LocV.a4 ?_)
          refine with_m ‹_› (hN4.mono hs14) (fun _ h=>h) hk0 hok'.noFix ?_ (by k_dflt rfl)
          with_reducible (refine ev_lv ‹_› ‹_› LocV.a9 ?_;refine And.intro (St.kin ‹_›) ?_)
          refine useP (with_of (hN4.mono hs14) (hs14 _ (.head _)) (hfv.mono hs14) (by rw [List.length_map]) hk0 hok'.noFix (by rw [List.length_map];lia)) ‹_› d6 u6 ?_
          intro r P5 s15 S15 hs15 hx27
          refine ex1 hx27 ?_;clear hx27;intro b' hy29;refine an2 hy29 ?_;clear hy29;intro hx28 hT
          symm at hx28;subst hx28
          with_reducible (refine st_loc ‹_› ‹_› ?_;refine SetQ.i (SetL.a4) ?_;intro _ _;refine (by assumption:Nxt _ _ _ _ _ _ _) _ ?_;refine wpAny_execs_nil ?_;refine (by assumption:Imp _ _) _ _ ?_)
          exact ⟨rfl,mk6 P5 b' _ _ _ _ ⟨by assumption,fun p hp=>hs15 _ (hs14 _ (.tail _ hp)),hT⟩⟩
        · have he:pv = fv:=by simpa using hb
          have hkk:t'.kids.map (fixT cn) = t'.kids:=by
            subst he
            exact Nds.uniq (St.fun1 S14) (hfv.mono hs14) (hpv1.mono hs14)
          with_reducible (refine wpAny_execs_nil ?_;refine (by assumption:Imp _ _) _ _ ?_)
          exact ⟨rfl,mk6 P4 b _ _ _ _ ⟨by assumption,fun p hp=>hs14 _ (.tail _ hp),by rw [hkk,wk_kids];exact hN4.mono hs14⟩⟩
      · intro f s14 hx30
        refine an2 hx30 ?_;clear hx30;intro hx31 hz32;refine ex6 hz32 ?_;clear hz32;intro P4 b' u1 u2' u3 u4' hy33;refine an3 hy33 ?_;clear hy33;intro S14 hs14 hNb'
        symm at hx31;subst hx31
        try dsimp only
        with_reducible (refine (by assumption:Nxt _ _ _ _ _ _ _) _ ?_;refine eA ‹_› ?_;intro _ _ _;refine wpAny_Expr_any ?_ (by k_dflt rfl) (by k_dflt rfl);refine MethodCall_ ?_ (by k_dflt rfl);refine ev_lv ‹_› ‹_› LocV.a2 ?_;refine lmeth ‹_› (by k_mem) PySem.F.slot_list_append PySem.F.type_list_append ?_;refine callWith_method1 ?_ (by k_dflt rfl) (by k_dflt rfl);refine sp1 ?_ (by k_dflt rfl))
        have to4:∀ p∈P,p∈P4:=fun p hp=>hs14 _ (hs7 _ (hP2 _ hp))
        refine callLM ‹_› gN (by refine LocQ.i (LocV.a1) ?_;exact rfl) (to4 _ hq) (fnin_491 w) ?_ (by k_dflt rfl)
        with_reducible (refine ev_lv ‹_› ‹_› LocV.a4 ?_)
        refine ⟨methP (St.N ‹_›) (List.mem_append_right _ (to4 _ hq)) (St.kin ‹_›),?_⟩
        have hx4:FxObj w P4 x F:=by obtain ⟨d,tf,a1,a2⟩:=hx;exact ⟨d,tf,to4 _ a1,to4 _ a2⟩
        have hF4:FSet w P4 F cn:=by obtain ⟨dF,es,n,dS,o,kv,a1,a2,a3,a4,a5,a6⟩:=hF;exact ⟨dF,es,n,dS,o,kv,to4 _ a1,to4 _ a2,a3,to4 _ a4,a5,a6⟩
        refine call_bm ‹_› (to4 _ hq) (turned hNb' hx4 hF4 (by have:=wk_size (c:=cn) hok'.noFix;lia) (setOk_of fun n hn=>hok'.st n (wk_setn hok'.noFix n hn))) d20 u20 ?_
        intro r P5 s15 S15 hs15 hT
        rw [← fixT_eq cn t' hok'.noFix] at hT
        with_reducible (refine sp0 ?_)
        refine app (S15.perm (own':=[_,_]) (List.Perm.swap _ _ _)) (fits_le (by have:=hdt0.length;lia)) ?_
        intro s16 S16
        have S17:=S16.perm (own':=[_,_]) (List.Perm.swap _ _ _)
        with_reducible (refine (by assumption:Nxt _ _ _ _ _ _ _) _ ?_;refine wpAny_execs_nil ?_;refine (by assumption:Nxt _ _ _ _ _ _ _) _ ?_;refine wpAny_execs_nil ?_;refine (by assumption:Imp _ _) _ _ ?_)
        have hsub:∀ p∈P3,p∈P5:=fun p hp=>hs15 _ (hs14 _ hp)
        refine mk1 (mu ws) ⟨by lia,mk14 ws (d0 ++ [fixT cn t']) _ _ _ _ _ _ _ _ _ _ _ P5 ⟨rfl,fun p hp=>hs15 _ (to4 _ hp),S17,hwv3.mono fun v p h=>WR.mono _ _ v p hsub h,(hdt0.mono fun v t h=>TR.mono _ _ v t hsub h).snoc hT,hg2,hoks',?_⟩⟩
        rw [List.length_append,List.length_singleton]
        have:done.length = d0.length + t'.kids.length:=by rw [← hdl];exact hdd
        lia
  · intro f s3 hx34
    refine an2 hx34 ?_;clear hx34;intro hx35 hz36;refine ex12 hz36 ?_;clear hz36;intro Dn dv wv en ew v1 v2 v3 v4 v5 v6 P2 hy37;refine an3 hy37 ?_;clear hy37;intro hP2 S3 hdv
    symm at hx35;subst hx35
    cases hdv with
    | cons hT hr =>
    cases hr
    try dsimp only
    with_reducible (refine (by assumption:Nxt _ _ _ _ _ _ _) _ ?_;refine eI ‹_› ?_;intro _ _ _;refine wpAny_Return_some ?_;refine Subscript_ ?_;refine ev_lv ‹_› ‹_› LocV.a2 ?_;refine ev_int ‹_› ?_;intro _ _ _)
    refine li_item (St.isListO ‹_› (by k_mem)) (by decide) (by decide) rfl ?_ (by k_dflt rfl)
    with_reducible (refine (by assumption:Abr _ _) _ _ (by k_dflt rfl) ?_;refine (by assumption:Imp _ _) _ _ ?_)
    exact Ends.of (own':=[_,_]) (P':=P2) ‹_› hP2 hT
end
end
section
open PySem.Calls
section
variable {w:World} {c:Cx} {m:Str→Option Value} {own P:Led} {s:Shared} {E:Value→Shared→Prop}
theorem makeG {C fI:Addr} {args:List Value} {Q:Value→Shared→Prop} {name qual:Str} {params:Arguments} {body:List Stmt} {ns:List (Str × NameKind)} {mo:List (Str × Const)} {dV kV doc pm cdv ct oc:Value} {an od:Option Addr} {osl:Array (Option Value)} {K:Frag} {Out:Led→Led→Value→Prop}
    (hK:K = hd.heap_39 w.params) (hm:makesIn K C = true) (hi:findIn K (.ref C) "__init__" = some (some (.ref fI))) (hf:isFn K (.ref fI) = true)
    (ho:K.lookup fI = some ⟨oc,od,.func (fnOf name qual params body (fnSc ns mo) dV kV doc pm an cdv ct),osl⟩) (hcd:codeIn K cdv qual = true)
    (S:St w c m own P s) (hroom:c.A.depth + 1 < recursionLimit)
    (hbind:∀ x (s:Shared),BindsTo s (fnOf name qual params body (fnSc ns mo) dV kV doc pm an cdv ct) ⟨.ref x::args,[]⟩ ((params.args.map (·.arg)).zip (.ref x::args))) (hlen:(params.args.map (·.arg)).length = args.length + 1) (hgood:goodFn ns (params.args.map (·.arg)) = true)
    (h:∀ c' s' x dx,goodNs ns = true→c'.A.depth = c.A.depth + 2→c'.A.units≤c.A.units + 8→St w c' (asg ns (some (.ref x)::args.map some)) [(dx,dictOf [] 0)] ((x,instObj C dx)::P) s' →
      wpAny (model rw_pq1024_01.row.prog w) c'.A (execs body (envX qual (fnSc ns mo) c'.L fI cdv [])) (fun fl s''=>Ends w c' ((x,instObj C dx)::P) (fun cs P' r=>r = .none∧Out cs P' (.ref x)) (match fl with | .ret v=>v | _=>.none) s'') (fun _ _=>False) s')
    (ret:∀ x cells P' s',St w c m (cells ++ own) P' s'→(∀ p∈P,p∈P')→Out cells P' (.ref x)→Q (.ref x) s') :
    wpAny (model rw_pq1024_01.row.prog w) c.A (call (.ref C) args) Q E s:=by
  subst hK
  refine call_cls S.F S.X S.N hm hi hf fun x dx h' F' N' l1 l2=>?_
  let c2:Cx:={ c with A:=c.A.under (.builtin "type.__call__" ⟨.ref C::args,[]⟩) }
  have S2:St w c2 m ([(dx,dictOf [] 0)] ++ own) ((x,instObj C dx)::P) { s with heap:=h' }:=by
    refine ⟨F',fun p hp=>N' p ?_,fun q hq p hp=>?_,?_,S.X,S.T,⟨S.B.stack,S.B.stays,S.B.frames⟩,S.hh,S.fr,S.eg,S.ed,S.eo⟩
    · rcases List.mem_append.mp hp with hp | hp
      · rcases List.mem_cons.mp hp with rfl | hp
        · exact .tail _ (.head _)
        · exact .tail _ (.tail _ (List.mem_append_left _ hp))
      · rcases List.mem_cons.mp hp with rfl | hp
        · exact .head _
        · exact .tail _ (.tail _ (List.mem_append_right _ hp))
    · rcases List.mem_cons.mp hp with rfl | hp
      · rcases List.mem_cons.mp hq with rfl | hq
        · exact fun e=>Nat.lt_irrefl dx (by have e':x = dx:=e;rw [e'] at l2;exact l2)
        · have:=Nat.lt_trans (l1 q (List.mem_append_left _ hq)) l2
          exact fun e=>by have e':x = q.1:=e;rw [← e'] at this;exact Nat.lt_irrefl _ this
      · rcases List.mem_cons.mp hq with rfl | hq
        · have:=l1 p (List.mem_append_right _ hp)
          exact fun e=>by have e':p.1 = dx:=e;rw [e'] at this;exact Nat.lt_irrefl _ this
        · exact S.ap q hq p hp
    · refine List.nodup_cons.mpr ⟨fun hm=>?_,S.nd⟩
      refine ex1 (List.mem_map.mp hm) ?_;intro q hy1;refine an2 hy1 ?_;clear hy1;intro hq e
      have:=l1 q (List.mem_append_left _ hq)
      rw [e] at this
      exact Nat.lt_irrefl _ this
  have key:=enterG (c:=c2) (m:=m) (cells:=[(dx,dictOf [] 0)]) (rest:=own) (P:=(x,instObj C dx)::P) (s:={ s with heap:=h' }) (Q:=fun v s'=>v = .none∧Q (.ref x) s') (E:=E) (vs:=.ref x::args) (Out:=fun cs P' r=>r = .none∧Out cs P' (.ref x)) rfl S2 ho hcd hroom (hbind x _) (by rw [hlen];rfl) hgood
    (fun c' s' h0 h1 h2 S'=>wpAny_mono (h c' s' x dx h0 (by rw [h1];rfl) (by rw [h2];have:c2.A.units = c.A.units + 1:=units_under_make _ _ _;lia) S') (fun fl s'' hfin=>?_) fun _ _ e=>e) (fun r cells' P' s' S' hs ho=>?_)
  · refine codeAny_mono key fun r s' z=>?_
    rcases r with e | (v | _ | _ | _) <;> first | exact z | exact z.elim
  · refine ex4 hfin ?_;clear hfin;intro m' cells' own' P' hy2;refine an4 hy2 ?_;clear hy2;intro S3 hs hr ho
    exact mk4 m' cells' own' P' ⟨S3,hs,hr,ho⟩
  · exact ⟨ho.1,ret x cells' P' s' ⟨S'.F,S'.N,S'.ap,S'.nd,S'.X,S'.T,⟨S.B.stack,S.B.stays,S.B.frames⟩,S.hh,S.fr,S'.eg,S'.ed,S'.eo⟩ (fun p hp=>hs p (.tail _ hp)) ho.2⟩
end
structure FA where
  (sg rg nr lt pr ct bd cl st rd:Addr)
noncomputable def FObj (w:World) (P:Led) (F:Addr) (a:FA):Prop:=∃ dF t0 t1 t2 t3 t4 t5 t6 t7 t8 t9,(F,instObj 379 dF)∈P∧(dF,dictOf [ent w "read" t0 (.ref a.rd),ent w "set" t1 (.ref a.st),ent w "called" t2 (.ref a.cl),ent w "bound" t3 (.ref a.bd),ent w "caught" t4 (.ref a.ct),ent w "parent" t5 (.ref a.pr),ent w "lets" t6 (.ref a.lt),ent w "inner" t7 (.ref a.nr),ent w "read_globals" t8 (.ref a.rg),ent w "set_globals" t9 (.ref a.sg)] 10)∈P
theorem FObj.mono {w:World} {P P':Led} {F:Addr} {a:FA} (hs:∀ p∈P,p∈P') (h:FObj w P F a):FObj w P' F a:=by
  refine ex11 h ?_;clear h;intro dF t0 t1 t2 t3 t4 t5 t6 t7 t8 t9 hy3;refine an2 hy3 ?_;clear hy3;intro h1 h2
  exact mk11 dF t0 t1 t2 t3 t4 t5 t6 t7 t8 t9 ⟨hs _ h1,hs _ h2⟩
theorem sat_Facts (w:World):findIn (hd.heap_39 w.params) (.ref 379) "__setattr__" = some (some (.builtin "object.__setattr__")):=by kernel_rfl
theorem po_Facts (w:World):plainOver (hd.heap_39 w.params) 379 = true:=by kernel_rfl
theorem tk_Facts_read (w:World):takerIn (hd.heap_39 w.params) 379 (Str.ofString "read") = some none:=by kernel_rfl
theorem tk_Facts_set (w:World):takerIn (hd.heap_39 w.params) 379 (Str.ofString "set") = some none:=by kernel_rfl
theorem tk_Facts_called (w:World):takerIn (hd.heap_39 w.params) 379 (Str.ofString "called") = some none:=by kernel_rfl
theorem tk_Facts_bound (w:World):takerIn (hd.heap_39 w.params) 379 (Str.ofString "bound") = some none:=by kernel_rfl
theorem tk_Facts_caught (w:World):takerIn (hd.heap_39 w.params) 379 (Str.ofString "caught") = some none:=by kernel_rfl
theorem tk_Facts_parent (w:World):takerIn (hd.heap_39 w.params) 379 (Str.ofString "parent") = some none:=by kernel_rfl
theorem tk_Facts_lets (w:World):takerIn (hd.heap_39 w.params) 379 (Str.ofString "lets") = some none:=by kernel_rfl
theorem tk_Facts_inner (w:World):takerIn (hd.heap_39 w.params) 379 (Str.ofString "inner") = some none:=by kernel_rfl
theorem tk_Facts_read_globals (w:World):takerIn (hd.heap_39 w.params) 379 (Str.ofString "read_globals") = some none:=by kernel_rfl
theorem tk_Facts_set_globals (w:World):takerIn (hd.heap_39 w.params) 379 (Str.ofString "set_globals") = some none:=by kernel_rfl
section
variable {w:World} {c:Cx} {m:Str→Option Value} {own P:Led} {s:Shared} {E Q:Value→Shared→Prop}
theorem at_F_read {F:Addr} {a:FA} {P₀:Led} {ex:Bool} (S:St w c m own P s) (h:FObj w P₀ F a) (hs:∀ p∈P₀,p∈P) (k:∀ s',St w c m own P s'→Q (.ref a.rd) s'):wpAny (model rw_pq1024_01.row.prog w) c.A (getAttr (.ref F) (Str.ofString "read") ex) Q E s:=by
  refine ex11 h ?_;clear h;intro dF t0 t1 t2 t3 t4 t5 t6 t7 t8 t9 hy4;refine an2 hy4 ?_;clear hy4;intro h1 h2
  exact ga (pg_Facts w _) (hh_Facts w) (fi_Facts_read w) S (hs _ h1) (hs _ h2) rfl rfl k
theorem at_F_set {F:Addr} {a:FA} {P₀:Led} {ex:Bool} (S:St w c m own P s) (h:FObj w P₀ F a) (hs:∀ p∈P₀,p∈P) (k:∀ s',St w c m own P s'→Q (.ref a.st) s'):wpAny (model rw_pq1024_01.row.prog w) c.A (getAttr (.ref F) (Str.ofString "set") ex) Q E s:=by
  refine ex11 h ?_;clear h;intro dF t0 t1 t2 t3 t4 t5 t6 t7 t8 t9 hy5;refine an2 hy5 ?_;clear hy5;intro h1 h2
  exact ga (pg_Facts w _) (hh_Facts w) (fi_Facts_set w) S (hs _ h1) (hs _ h2) rfl rfl k
theorem at_F_called {F:Addr} {a:FA} {P₀:Led} {ex:Bool} (S:St w c m own P s) (h:FObj w P₀ F a) (hs:∀ p∈P₀,p∈P) (k:∀ s',St w c m own P s'→Q (.ref a.cl) s'):wpAny (model rw_pq1024_01.row.prog w) c.A (getAttr (.ref F) (Str.ofString "called") ex) Q E s:=by
  refine ex11 h ?_;clear h;intro dF t0 t1 t2 t3 t4 t5 t6 t7 t8 t9 hy6;refine an2 hy6 ?_;clear hy6;intro h1 h2
  exact ga (pg_Facts w _) (hh_Facts w) (fi_Facts_called w) S (hs _ h1) (hs _ h2) rfl rfl k
theorem at_F_bound {F:Addr} {a:FA} {P₀:Led} {ex:Bool} (S:St w c m own P s) (h:FObj w P₀ F a) (hs:∀ p∈P₀,p∈P) (k:∀ s',St w c m own P s'→Q (.ref a.bd) s'):wpAny (model rw_pq1024_01.row.prog w) c.A (getAttr (.ref F) (Str.ofString "bound") ex) Q E s:=by
  refine ex11 h ?_;clear h;intro dF t0 t1 t2 t3 t4 t5 t6 t7 t8 t9 hy7;refine an2 hy7 ?_;clear hy7;intro h1 h2
  exact ga (pg_Facts w _) (hh_Facts w) (fi_Facts_bound w) S (hs _ h1) (hs _ h2) rfl rfl k
theorem at_F_caught {F:Addr} {a:FA} {P₀:Led} {ex:Bool} (S:St w c m own P s) (h:FObj w P₀ F a) (hs:∀ p∈P₀,p∈P) (k:∀ s',St w c m own P s'→Q (.ref a.ct) s'):wpAny (model rw_pq1024_01.row.prog w) c.A (getAttr (.ref F) (Str.ofString "caught") ex) Q E s:=by
  refine ex11 h ?_;clear h;intro dF t0 t1 t2 t3 t4 t5 t6 t7 t8 t9 hy8;refine an2 hy8 ?_;clear hy8;intro h1 h2
  exact ga (pg_Facts w _) (hh_Facts w) (fi_Facts_caught w) S (hs _ h1) (hs _ h2) rfl rfl k
theorem at_F_parent {F:Addr} {a:FA} {P₀:Led} {ex:Bool} (S:St w c m own P s) (h:FObj w P₀ F a) (hs:∀ p∈P₀,p∈P) (k:∀ s',St w c m own P s'→Q (.ref a.pr) s'):wpAny (model rw_pq1024_01.row.prog w) c.A (getAttr (.ref F) (Str.ofString "parent") ex) Q E s:=by
  refine ex11 h ?_;clear h;intro dF t0 t1 t2 t3 t4 t5 t6 t7 t8 t9 hy9;refine an2 hy9 ?_;clear hy9;intro h1 h2
  exact ga (pg_Facts w _) (hh_Facts w) (fi_Facts_parent w) S (hs _ h1) (hs _ h2) rfl rfl k
theorem at_F_lets {F:Addr} {a:FA} {P₀:Led} {ex:Bool} (S:St w c m own P s) (h:FObj w P₀ F a) (hs:∀ p∈P₀,p∈P) (k:∀ s',St w c m own P s'→Q (.ref a.lt) s'):wpAny (model rw_pq1024_01.row.prog w) c.A (getAttr (.ref F) (Str.ofString "lets") ex) Q E s:=by
  refine ex11 h ?_;clear h;intro dF t0 t1 t2 t3 t4 t5 t6 t7 t8 t9 hy10;refine an2 hy10 ?_;clear hy10;intro h1 h2
  exact ga (pg_Facts w _) (hh_Facts w) (fi_Facts_lets w) S (hs _ h1) (hs _ h2) rfl rfl k
theorem at_F_inner {F:Addr} {a:FA} {P₀:Led} {ex:Bool} (S:St w c m own P s) (h:FObj w P₀ F a) (hs:∀ p∈P₀,p∈P) (k:∀ s',St w c m own P s'→Q (.ref a.nr) s'):wpAny (model rw_pq1024_01.row.prog w) c.A (getAttr (.ref F) (Str.ofString "inner") ex) Q E s:=by
  refine ex11 h ?_;clear h;intro dF t0 t1 t2 t3 t4 t5 t6 t7 t8 t9 hy11;refine an2 hy11 ?_;clear hy11;intro h1 h2
  exact ga (pg_Facts w _) (hh_Facts w) (fi_Facts_inner w) S (hs _ h1) (hs _ h2) rfl rfl k
theorem at_F_read_globals {F:Addr} {a:FA} {P₀:Led} {ex:Bool} (S:St w c m own P s) (h:FObj w P₀ F a) (hs:∀ p∈P₀,p∈P) (k:∀ s',St w c m own P s'→Q (.ref a.rg) s'):wpAny (model rw_pq1024_01.row.prog w) c.A (getAttr (.ref F) (Str.ofString "read_globals") ex) Q E s:=by
  refine ex11 h ?_;clear h;intro dF t0 t1 t2 t3 t4 t5 t6 t7 t8 t9 hy12;refine an2 hy12 ?_;clear hy12;intro h1 h2
  exact ga (pg_Facts w _) (hh_Facts w) (fi_Facts_read_globals w) S (hs _ h1) (hs _ h2) rfl rfl k
end
section
variable {w:World} {P:Led}
theorem mk_facts {c:Cx} {m:Str→Option Value} {own:Led} {s:Shared} {Q E:Value→Shared→Prop} (S:St w c m own P s) (hdp:c.A.depth + 3 < recursionLimit) (hu:c.A.units + 40 < cLine)
    (ret:∀ F a cells P' s',St w c m (cells ++ own) P' s'→(∀ p∈P,p∈P')→FObj w P' F a→Dcs w cells [(a.sg,[]),(a.rg,[]),(a.nr,[]),(a.lt,[]),(a.pr,[]),(a.ct,[]),(a.bd,[]),(a.cl,[]),(a.st,[]),(a.rd,[])]→Q (.ref F) s') :
    wpAny (model rw_pq1024_01.row.prog w) c.A (call (.ref 379) []) Q E s:=by
  have X:=S.X
  refine makeG (Out:=fun cells P' r=>∃ F a dF t0 t1 t2 t3 t4 t5 t6 t7 t8 t9 cs,r = .ref F∧(F,instObj 379 dF)∈P'∧cells = (dF,dictOf [ent w "read" t0 (.ref (FA.rd a)),ent w "set" t1 (.ref (FA.st a)),ent w "called" t2 (.ref (FA.cl a)),ent w "bound" t3 (.ref (FA.bd a)),ent w "caught" t4 (.ref (FA.ct a)),ent w "parent" t5 (.ref (FA.pr a)),ent w "lets" t6 (.ref (FA.lt a)),ent w "inner" t7 (.ref (FA.nr a)),ent w "read_globals" t8 (.ref (FA.rg a)),ent w "set_globals" t9 (.ref (FA.sg a))] 10)::cs∧Dcs w cs [(a.sg,[]),(a.rg,[]),(a.nr,[]),(a.lt,[]),(a.pr,[]),(a.ct,[]),(a.bd,[]),(a.cl,[]),(a.st,[]),(a.rd,[])]) (K:=hd.heap_39 w.params) rfl (by k_is) (by k_is) (by k_is) (by k_is) (by k_is) S (by lia) (by exact fun x s=>BindsTo.of_eq rfl) (by exact rfl) (by kernel_rfl) ?_ ?kr
  case kr =>
    intro x cells P' s' S' hs hx14
    refine ex14 hx14 ?_;clear hx14;intro F a dF t0 t1 t2 t3 t4 t5 t6 t7 t8 t9 cs hy16;refine an4 hy16 ?_;clear hy16;intro e hm hx15 hD
    symm at hx15;subst hx15
    cases e
    exact ret _ a cs _ _ (St.settle S') (fun p hp=>.tail _ (hs p hp)) (mk11 dF t0 t1 t2 t3 t4 t5 t6 t7 t8 t9 ⟨.tail _ hm,.head _⟩) hD
  intro c' s' x dx gN _ _ S'
  dsimp only [List.map] at S'
  with_reducible (refine nameQ ?_;intro _ _;refine eN ?_;intro _ _ _;refine plainObj_wpAny_Assign_Attribute ?_ (by k_dflt rfl))
  refine dnew ‹_› ?_
  intro d0 o0 z0 hd0 hl0 S0
  have S0':=S0.swap
  with_reducible (refine ev_lv ‹_› ‹_› LocV.a0 ?_)
  refine sa (sat_Facts w) (po_Facts w) (tk_Facts_read w) (hh_Facts w) S0' (by k_mem) rfl (fun _ _ _=>rfl) rfl (Nat.le_of_ble_eq_true rfl) ?_
  clear S0 S0'
  intro y0 tk0 T0
  dsimp only [List.cons_append,List.nil_append] at T0
  with_reducible (refine (by assumption:Nxt _ _ _ _ _ _ _) _ ?_;refine eI ‹_› ?_;intro _ _ _;refine plainObj_wpAny_Assign_Attribute ?_ (by k_dflt rfl))
  refine dnew ‹_› ?_
  intro d1 o1 z1 hd1 hl1 S1
  have S1':=S1.swap
  with_reducible (refine ev_lv ‹_› ‹_› LocV.a0 ?_)
  refine sa (sat_Facts w) (po_Facts w) (tk_Facts_set w) (hh_Facts w) S1' (by k_mem) rfl (fun _ _ _=>rfl) rfl (Nat.le_of_ble_eq_true rfl) ?_
  clear S1 S1'
  intro y1 tk1 T1
  dsimp only [List.cons_append,List.nil_append] at T1
  with_reducible (refine (by assumption:Nxt _ _ _ _ _ _ _) _ ?_;refine eI ‹_› ?_;intro _ _ _;refine plainObj_wpAny_Assign_Attribute ?_ (by k_dflt rfl))
  refine dnew ‹_› ?_
  intro d2 o2 z2 hd2 hl2 S2
  have S2':=S2.swap
  with_reducible (refine ev_lv ‹_› ‹_› LocV.a0 ?_)
  refine sa (sat_Facts w) (po_Facts w) (tk_Facts_called w) (hh_Facts w) S2' (by k_mem) rfl (fun _ _ _=>rfl) rfl (Nat.le_of_ble_eq_true rfl) ?_
  clear S2 S2'
  intro y2 tk2 T2
  dsimp only [List.cons_append,List.nil_append] at T2
  with_reducible (refine (by assumption:Nxt _ _ _ _ _ _ _) _ ?_;refine eI ‹_› ?_;intro _ _ _;refine plainObj_wpAny_Assign_Attribute ?_ (by k_dflt rfl))
  refine dnew ‹_› ?_
  intro d3 o3 z3 hd3 hl3 S3
  have S3':=S3.swap
  with_reducible (refine ev_lv ‹_› ‹_› LocV.a0 ?_)
  refine sa (sat_Facts w) (po_Facts w) (tk_Facts_bound w) (hh_Facts w) S3' (by k_mem) rfl (fun _ _ _=>rfl) rfl (Nat.le_of_ble_eq_true rfl) ?_
  clear S3 S3'
  intro y3 tk3 T3
  dsimp only [List.cons_append,List.nil_append] at T3
  with_reducible (refine (by assumption:Nxt _ _ _ _ _ _ _) _ ?_;refine eI ‹_› ?_;intro _ _ _;refine plainObj_wpAny_Assign_Attribute ?_ (by k_dflt rfl))
  refine dnew ‹_› ?_
  intro d4 o4 z4 hd4 hl4 S4
  have S4':=S4.swap
  with_reducible (refine ev_lv ‹_› ‹_› LocV.a0 ?_)
  refine sa (sat_Facts w) (po_Facts w) (tk_Facts_caught w) (hh_Facts w) S4' (by k_mem) rfl (fun _ _ _=>rfl) rfl (Nat.le_of_ble_eq_true rfl) ?_
  clear S4 S4'
  intro y4 tk4 T4
  dsimp only [List.cons_append,List.nil_append] at T4
  with_reducible (refine (by assumption:Nxt _ _ _ _ _ _ _) _ ?_;refine eI ‹_› ?_;intro _ _ _;refine plainObj_wpAny_Assign_Attribute ?_ (by k_dflt rfl))
  refine dnew ‹_› ?_
  intro d5 o5 z5 hd5 hl5 S5
  have S5':=S5.swap
  with_reducible (refine ev_lv ‹_› ‹_› LocV.a0 ?_)
  refine sa (sat_Facts w) (po_Facts w) (tk_Facts_parent w) (hh_Facts w) S5' (by k_mem) rfl (fun _ _ _=>rfl) rfl (Nat.le_of_ble_eq_true rfl) ?_
  clear S5 S5'
  intro y5 tk5 T5
  dsimp only [List.cons_append,List.nil_append] at T5
  with_reducible (refine (by assumption:Nxt _ _ _ _ _ _ _) _ ?_;refine eI ‹_› ?_;intro _ _ _;refine plainObj_wpAny_Assign_Attribute ?_ (by k_dflt rfl))
  refine dnew ‹_› ?_
  intro d6 o6 z6 hd6 hl6 S6
  have S6':=S6.swap
  with_reducible (refine ev_lv ‹_› ‹_› LocV.a0 ?_)
  refine sa (sat_Facts w) (po_Facts w) (tk_Facts_lets w) (hh_Facts w) S6' (by k_mem) rfl (fun _ _ _=>rfl) rfl (Nat.le_of_ble_eq_true rfl) ?_
  clear S6 S6'
  intro y6 tk6 T6
  dsimp only [List.cons_append,List.nil_append] at T6
  with_reducible (refine (by assumption:Nxt _ _ _ _ _ _ _) _ ?_;refine eI ‹_› ?_;intro _ _ _;refine plainObj_wpAny_Assign_Attribute ?_ (by k_dflt rfl))
  refine dnew ‹_› ?_
  intro d7 o7 z7 hd7 hl7 S7
  have S7':=S7.swap
  with_reducible (refine ev_lv ‹_› ‹_› LocV.a0 ?_)
  refine sa (sat_Facts w) (po_Facts w) (tk_Facts_inner w) (hh_Facts w) S7' (by k_mem) rfl (fun _ _ _=>rfl) rfl (Nat.le_of_ble_eq_true rfl) ?_
  clear S7 S7'
  intro y7 tk7 T7
  dsimp only [List.cons_append,List.nil_append] at T7
  with_reducible (refine (by assumption:Nxt _ _ _ _ _ _ _) _ ?_;refine eI ‹_› ?_;intro _ _ _;refine plainObj_wpAny_Assign_Attribute ?_ (by k_dflt rfl))
  refine dnew ‹_› ?_
  intro d8 o8 z8 hd8 hl8 S8
  have S8':=S8.swap
  with_reducible (refine ev_lv ‹_› ‹_› LocV.a0 ?_)
  refine sa (sat_Facts w) (po_Facts w) (tk_Facts_read_globals w) (hh_Facts w) S8' (by k_mem) rfl (fun _ _ _=>rfl) rfl (Nat.le_of_ble_eq_true rfl) ?_
  clear S8 S8'
  intro y8 tk8 T8
  dsimp only [List.cons_append,List.nil_append] at T8
  with_reducible (refine (by assumption:Nxt _ _ _ _ _ _ _) _ ?_;refine eI ‹_› ?_;intro _ _ _;refine plainObj_wpAny_Assign_Attribute ?_ (by k_dflt rfl))
  refine dnew ‹_› ?_
  intro d9 o9 z9 hd9 hl9 S9
  have S9':=S9.swap
  with_reducible (refine ev_lv ‹_› ‹_› LocV.a0 ?_)
  refine sa (sat_Facts w) (po_Facts w) (tk_Facts_set_globals w) (hh_Facts w) S9' (by k_mem) rfl (fun _ _ _=>rfl) rfl (Nat.le_of_ble_eq_true rfl) ?_
  clear S9 S9'
  intro y9 tk9 T9
  dsimp only [List.cons_append,List.nil_append] at T9
  with_reducible (refine (by assumption:Nxt _ _ _ _ _ _ _) _ ?_;refine wpAny_execs_nil ?_;refine (by assumption:Imp _ _) _ _ ?_)
  exact mk4 _ _ [] _ ⟨by rw [List.append_nil];assumption,fun _ h=>h,rfl,mk14 x ⟨d9,d8,d7,d6,d5,d4,d3,d2,d1,d0⟩ dx tk0 tk1 tk2 tk3 tk4 tk5 tk6 tk7 tk8 tk9 _ ⟨rfl,.head _,rfl,.cons hd9 hl9 (.cons hd8 hl8 (.cons hd7 hl7 (.cons hd6 hl6 (.cons hd5 hl5 (.cons hd4 hl4 (.cons hd3 hl3 (.cons hd2 hl2 (.cons hd1 hl1 (.cons hd0 hl0 .nil)))))))))⟩⟩
theorem count_in {c:Cx} {m:Str→Option Value} {cells rest:Led} {l:List (Addr × KV)} {s:Shared} {Q E:Value→Shared→Prop} {i:Nat} {d:Addr} {kv:KV} {k n:Int} {u:Tok} (D:Dcs w cells l) (S:St w c m (cells ++ rest) P s) (hi:l[i]? = some (d,kv)) (hv:∀ t0,∃ t,(valueAt kv k).getD (.int 0 t0) = .int n t) (hz:kv.length≤900000)
    (hdp:c.A.depth + 1 < recursionLimit) (ret:∀ cells' tk s',Dcs w cells' (l.set i (d,stored kv k (.int (n + 1) tk)))→St w c m (cells' ++ rest) P s'→Q .none s'):wpAny (model rw_pq1024_01.row.prog w) c.A (call (.ref 390) [.ref d,.int k u]) Q E s:=by
  have X:=S.X
  refine wpAny_call ?_
  refine enterG (K:=hd.heap_39 _) (cells:=cells) (rest:=rest) (P:=P) (Out:=fun cs P' r=>∃ tk,r = .none∧Dcs w cs (l.set i (d,stored kv k (.int (n + 1) tk)))) rfl S (by k_is) (by k_is) (by lia) (by exact BindsTo.of_eq rfl) (by exact rfl) (by kernel_rfl) ?_ ?_
  · intro c' s' gN hd' hu' S'
    dsimp only [List.map] at S'
    clear ret S hdp hd' hu'
    rw [← List.append_nil cells] at S'
    with_reducible (refine nameQ ?_;intro _ _;refine eN ?_;intro _ _ _;refine wpAny_Assign_Subscript ?_ (by k_dflt rfl);refine wpAny_BinOp ?_;refine MethodCall_ ?_ (by k_dflt rfl);refine ev_lv ‹_› ‹_› LocV.a0 ?_)
    refine dgetm D ‹_› hi ?_
    with_reducible (refine callWith_method1 ?_ (by k_dflt rfl) (by k_dflt rfl);refine sp1 ?_ (by k_dflt rfl);refine ev_lv ‹_› ‹_› LocV.a1 ?_;refine sp1 ?_ (by k_dflt rfl);refine ev_int ‹_› ?_;intro _ _ _;refine sp0 ?_)
    refine dget2 D ‹_› hi ?_
    intro s1 S1
    rename_i tk0 _
    refine ex1 (hv tk0) ?_;intro t ht
    rw [ht]
    with_reducible (refine ev_int ‹_› ?_;intro _ _ _;refine addS ‹_› ?_;intro _ _ _;refine ev_lv ‹_› ‹_› LocV.a0 ?_;refine ev_lv ‹_› ‹_› LocV.a1 ?_)
    refine dset D ‹_› hi (by lia) ?_
    intro cells' s2 D2 S2
    with_reducible (refine (by assumption:Nxt _ _ _ _ _ _ _) _ ?_;refine wpAny_execs_nil ?_;refine (by assumption:Imp _ _) _ _ ?_)
    exact mk4 _ cells' [] P ⟨S2,fun _ h=>h,mk1 _ ⟨rfl,D2⟩⟩
  · intro r cells' P' s' S' hs hx17
    refine ex1 hx17 ?_;clear hx17;intro tk hy19;refine an2 hy19 ?_;clear hy19;intro hx18 hD
    symm at hx18;subst hx18
    exact ret _ _ _ hD (S'.sub hs)
end
inductive Chain (pr:Int→Option Int) (b:Int):Int→Nat→Prop
  | here {k:Nat}:Chain pr b b k
  | up {x p:Int} {k:Nat}:pr x = some p→Chain pr b p k→Chain pr b x (k + 1)
theorem Chain.mono {pr pr':Int→Option Int} {b:Int} (h:∀ x p,pr x = some p→pr' x = some p):∀ {x:Int} {k:Nat},Chain pr b x k→Chain pr' b x k:=by
  intro x k c
  induction c with
  | here=>exact .here
  | up e _ ih=>exact .up (h _ _ e) ih
theorem Chain.le {pr:Int→Option Int} {b:Int}:∀ {x:Int} {k k':Nat},Chain pr b x k→k≤k'→Chain pr b x k'
  | _,_,_,.here,_=>.here
  | _,k + 1,k' + 1,.up e r,h=>.up e (r.le (by lia))
noncomputable def CntIs (kv:KV) (x:Int) (n:Nat):Prop:=(n = 0→valueAt kv x = none)∧(n≠0→∃ t,valueAt kv x = some (.int (n:Nat) t))
noncomputable def Cnt (kv:KV):Prop:=∀ x,∃ n:Nat,CntIs kv x n
theorem CntIs.getD {kv:KV} {x:Int} {n:Nat} (h:CntIs kv x n) (t0:Tok):∃ t,(valueAt kv x).getD (.int 0 t0) = .int (n:Nat) t:=by
  by_cases h0:n = 0
  · rw [h.1 h0,h0];exact ⟨t0,rfl⟩
  · obtain ⟨t,e⟩:=h.2 h0;rw [e];exact ⟨t,rfl⟩
theorem CntIs.put {kv:KV} {k:Int} {n:Nat} {tk:Tok}:CntIs (stored kv k (.int ((n:Nat) + 1:Int) tk)) k (n + 1) :=
  ⟨fun h=>absurd h (Nat.succ_ne_zero n),fun _=>⟨tk,by rw [valueAt_stored,if_pos rfl];rfl⟩⟩
theorem CntIs.other {kv:KV} {k x:Int} {n:Nat} {v:Value} (h:CntIs kv x n) (hx:x≠k):CntIs (stored kv k v) x n:=by
  unfold CntIs
  rw [valueAt_stored,if_neg hx];exact h
theorem Cnt.put {kv:KV} {k:Int} {n:Nat} {tk:Tok} (h:Cnt kv):Cnt (stored kv k (.int ((n:Nat) + 1:Int) tk)):=fun x=>by
  by_cases hx:x = k
  · subst hx;exact ⟨_,CntIs.put⟩
  · obtain ⟨m,hm⟩:=h x;exact ⟨m,hm.other hx⟩
/-- what the dicts of Facts say -/
theorem nine {a1 a2 a3 a4 a5 a6 a7 a8 a9 b1 b2 b3 b4 b5 b6 b7 b8 b9 N M:Nat} (h:a1≤N∧a2≤N∧a3≤N∧a4≤N∧a5≤N∧a6≤N∧a7≤N∧a8≤N∧a9≤N) (hM:N + 1≤M) (k1:b1≤a1 + 1) (k2:b2≤a2 + 1) (k3:b3≤a3 + 1) (k4:b4≤a4 + 1) (k5:b5≤a5 + 1) (k6:b6≤a6 + 1) (k7:b7≤a7 + 1) (k8:b8≤a8 + 1) (k9:b9≤a9 + 1):b1≤M∧b2≤M∧b3≤M∧b4≤M∧b5≤M∧b6≤M∧b7≤M∧b8≤M∧b9≤M :=
  have f {a b:Nat} (k:b≤a + 1) (h:a≤N):b≤M:=Nat.le_trans k (Nat.le_trans (Nat.succ_le_succ h) hM)
  ⟨f k1 h.1,f k2 h.2.1,f k3 h.2.2.1,f k4 h.2.2.2.1,f k5 h.2.2.2.2.1,f k6 h.2.2.2.2.2.1,f k7 h.2.2.2.2.2.2.1,f k8 h.2.2.2.2.2.2.2.1,f k9 h.2.2.2.2.2.2.2.2⟩
theorem nine0 {a1 a2 a3 a4 a5 a6 a7 a8 a9 N M:Nat} (h:a1≤N∧a2≤N∧a3≤N∧a4≤N∧a5≤N∧a6≤N∧a7≤N∧a8≤N∧a9≤N) (hM:N≤M):a1≤M∧a2≤M∧a3≤M∧a4≤M∧a5≤M∧a6≤M∧a7≤M∧a8≤M∧a9≤M :=
  ⟨Nat.le_trans h.1 hM,Nat.le_trans h.2.1 hM,Nat.le_trans h.2.2.1 hM,Nat.le_trans h.2.2.2.1 hM,Nat.le_trans h.2.2.2.2.1 hM,Nat.le_trans h.2.2.2.2.2.1 hM,Nat.le_trans h.2.2.2.2.2.2.1 hM,Nat.le_trans h.2.2.2.2.2.2.2.1 hM,Nat.le_trans h.2.2.2.2.2.2.2.2 hM⟩
structure FK (bd pr:Int→Option Int) (cn:Int→Nat) (N:Nat) (kSg kRg kNr kLt kPr kCt kBd kCl kSt kRd:KV) (inn:List (Addr × KV)):Prop where
  rg:Cnt kRg
  cl:Cnt kCl
  rd:Cnt kRd
  st:∀ x,CntIs kSt x (cn x)
  bd:∀ x b,bd x = some b→∃ t,valueAt kBd x = some (.int b t)
  pr:∀ x p,pr x = some p→(∃ t,valueAt kPr x = some (.int p t))∧∃ (j:Nat) (d:Addr) (kv:KV),valueAt kNr x = some (.ref d)∧inn[j]? = some (d,kv)
  len:kRg.length≤N∧kNr.length≤N∧kLt.length≤N∧kPr.length≤N∧kCt.length≤N∧kBd.length≤N∧kCl.length≤N∧kSt.length≤N∧kRd.length≤N
  inn:∀ p∈inn,p.2.length≤N
noncomputable abbrev fl (a:FA) (kSg kRg kNr kLt kPr kCt kBd kCl kSt kRd:KV) (inn:List (Addr × KV)):List (Addr × KV):=(a.sg,kSg)::(a.rg,kRg)::(a.nr,kNr)::(a.lt,kLt)::(a.pr,kPr)::(a.ct,kCt)::(a.bd,kBd)::(a.cl,kCl)::(a.st,kSt)::(a.rd,kRd)::inn
noncomputable def FS (a:FA) (bd pr:Int→Option Int) (cn:Int→Nat) (N:Nat) (l:List (Addr × KV)):Prop :=
  ∃ kSg kRg kNr kLt kPr kCt kBd kCl kSt kRd inn,l = fl a kSg kRg kNr kLt kPr kCt kBd kCl kSt kRd inn∧FK bd pr cn N kSg kRg kNr kLt kPr kCt kBd kCl kSt kRd inn
theorem mem_set_or {α:Type}:∀ {l:List α} {i:Nat} {x y:α},y∈l.set i x→y = x∨y∈l
  | _::_,0,_,_,h=>by
    rcases List.mem_cons.mp h with h | h
    · exact .inl h
    · exact .inr (.tail _ h)
  | z::r,i + 1,_,_,h=>by
    rcases List.mem_cons.mp h with h | h
    · exact .inr (h ▸ .head _)
    · rcases mem_set_or h with h | h
      · exact .inl h
      · exact .inr (.tail _ h)
theorem set_get_other {l:List (Addr × KV)} {i j:Nat} {d d':Addr} {kv kv' kv2:KV} (h:l[i]? = some (d,kv)) (h2:l[j]? = some (d',kv')):∃ kv3,(l.set i (d,kv2))[j]? = some (d',kv3):=by
  by_cases e:i = j
  · subst e
    rw [h] at h2
    cases h2
    have hl:i < l.length:=by
      rcases Nat.lt_or_ge i l.length with h' | h'
      · exact h'
      · rw [List.getElem?_eq_none h'] at h;cases h
    exact mk1 kv2 (by rw [List.getElem?_set_self hl])
  · exact mk1 kv' (by rw [List.getElem?_set_ne e];exact h2)
end
section
open PySem.Calls
theorem FK.le {bd pr:Int→Option Int} {cn:Int→Nat} {N N':Nat} {kSg kRg kNr kLt kPr kCt kBd kCl kSt kRd:KV} {inn:List (Addr × KV)} (h:FK bd pr cn N kSg kRg kNr kLt kPr kCt kBd kCl kSt kRd inn) (hN:N≤N'):FK bd pr cn N' kSg kRg kNr kLt kPr kCt kBd kCl kSt kRd inn :=
  ⟨h.rg,h.cl,h.rd,h.st,h.bd,h.pr,nine0 h.len hN,fun p hp=>Nat.le_trans (h.inn p hp) hN⟩
theorem FS.le {a:FA} {bd pr:Int→Option Int} {cn:Int→Nat} {N N':Nat} {l:List (Addr × KV)} (h:FS a bd pr cn N l) (hN:N≤N'):FS a bd pr cn N' l:=by
  refine ex11 h ?_;clear h;intro k1 k2 k3 k4 k5 k6 k7 k8 k9 k10 inn hy1;refine an2 hy1 ?_;clear hy1;intro e h
  exact mk11 k1 k2 k3 k4 k5 k6 k7 k8 k9 k10 inn ⟨e,h.le hN⟩
theorem FK.setInn {bd pr:Int→Option Int} {cn:Int→Nat} {N j:Nat} {d:Addr} {kv kv':KV} {kSg kRg kNr kLt kPr kCt kBd kCl kSt kRd:KV} {inn:List (Addr × KV)} (h:FK bd pr cn N kSg kRg kNr kLt kPr kCt kBd kCl kSt kRd inn) (hj:inn[j]? = some (d,kv)) (hl:kv'.length≤N + 1):FK bd pr cn (N + 1) kSg kRg kNr kLt kPr kCt kBd kCl kSt kRd (inn.set j (d,kv')) :=
  ⟨h.rg,h.cl,h.rd,h.st,h.bd,fun x p hx=>by
    refine an2 (h.pr x p hx) ?_;intro h1 hz2;refine ex3 hz2 ?_;clear hz2;intro i d2 kv2 hy3;refine an2 hy3 ?_;clear hy3;intro h2 h3
    refine ex1 (set_get_other (kv2:=kv') hj h3) ?_;intro kv3 h4
    exact ⟨h1,i,d2,kv3,h2,h4⟩,nine0 h.len (by lia),fun p hp=>by
    rcases mem_set_or hp with rfl | hp
    · exact hl
    · exact Nat.le_succ_of_le (h.inn p hp)⟩
theorem FK.ct {bd pr:Int→Option Int} {cn:Int→Nat} {N:Nat} {kSg kRg kNr kLt kPr kCt kCt' kBd kCl kSt kRd:KV} {inn:List (Addr × KV)} (h:FK bd pr cn N kSg kRg kNr kLt kPr kCt kBd kCl kSt kRd inn) (hl:kCt'.length≤N):FK bd pr cn N kSg kRg kNr kLt kPr kCt' kBd kCl kSt kRd inn :=
  ⟨h.rg,h.cl,h.rd,h.st,h.bd,h.pr,⟨h.len.1,h.len.2.1,h.len.2.2.1,h.len.2.2.2.1,hl,h.len.2.2.2.2.2⟩,h.inn⟩
section
variable {w:World} {P:Led}
theorem meet {c:Cx} {m:Str→Option Value} {cells rest:Led} {l:List (Addr × KV)} {s:Shared} {Q E:Value→Shared→Prop} {F:Addr} {a:FA} {bd pr:Int→Option Int} {cn:Int→Nat} {N k:Nat} {n lab b:Int} {u1 u2:Tok}
    (hF:FObj w P F a) (D:Dcs w cells l) (S:St w c m (cells ++ rest) P s) (hfs:FS a bd pr cn N l) (hb:bd n = some b) (hch:Chain pr b lab k) (hN:N + k≤800000) (hdp:c.A.depth + 1 < recursionLimit)
    (ret:∀ cells' l' s',Dcs w cells' l'→FS a bd pr cn (N + k) l'→St w c m (cells' ++ rest) P s'→Q .none s'):wpAny (model rw_pq1024_01.row.prog w) c.A (call (.ref 376) [.ref F,.int n u1,.int lab u2]) Q E s:=by
  have X:=S.X
  refine wpAny_call ?_
  refine enterG (K:=hd.heap_39 _) (cells:=cells) (rest:=rest) (P:=P) (Out:=fun cs P' r=>∃ l',r = .none∧Dcs w cs l'∧FS a bd pr cn (N + k) l') rfl S (by k_is) (by k_is) (by lia) (by exact BindsTo.of_eq rfl) (by exact rfl) (by kernel_rfl) ?_ ?_
  rotate_left
  · intro r cells' P' s' S' hs hx4
    refine ex1 hx4 ?_;clear hx4;intro l' hy6;refine an3 hy6 ?_;clear hy6;intro hx5 hD hf
    symm at hx5;subst hx5
    exact ret _ _ _ hD hf (S'.sub hs)
  intro c' s' gN hd' hu' S'
  dsimp only [List.map] at S'
  clear ret S hdp hd' hu'
  rw [← List.append_nil cells] at S'
  with_reducible (refine nameQ ?_;intro _ _;refine eN ?_;intro _ _ _;refine wpAny_Assign_Name ?_ (by k_dflt rfl);refine ev_lv ‹_› ‹_› LocV.a2 ?_;refine st_loc ‹_› ‹_› ?_;refine SetQ.i (SetL.there (SetL.there (SetL.there (SetL.hereN)))) ?_;intro _ _;refine (by assumption:Nxt _ _ _ _ _ _ _) _ ?_;refine eI ‹_› ?_;intro _ _ _)
  refine cutN gN (fun ns f s'=>f = .next∧∃ m' cells' l',Dcs w cells' l'∧FS a bd pr cn (N + k) l'∧St w c' m' (cells' ++ []) P s') ?_ ?_
  · intro Qm hqm
    refine whileR (fun j s=>∃ lb tk cells l,j≤k∧Chain pr b lb j∧Dcs w cells l∧FS a bd pr cn (N + (k - j)) l∧St w c' (asg _ [some (.ref F),some (.int n u1),some (.int lab u2),some (.int lb tk)]) (cells ++ []) P s) ?_ k _ (mk4 lab u2 cells l ⟨Nat.le_refl _,hch,D,by rw [Nat.sub_self];exact hfs,by assumption⟩)
    clear D hfs hch S'
    intro j s1 Qz hqz hx7
    refine ex4 hx7 ?_;clear hx7;intro lb tk cells l hy9;refine an5 hy9 ?_;clear hy9;intro hjk hch D hx8 S1
    refine ex11 hx8 ?_;clear hx8;intro kSg kRg kNr kLt kPr kCt kBd kCl kSt kRd inn hy11;refine an2 hy11 ?_;clear hy11;intro hx10 hK
    symm at hx10;subst hx10
    refine ex1 (hK.bd n b hb) ?_;intro tb htb
    with_reducible (refine wpAny_isTrue_Compare1 ?_ (by k_dflt rfl);refine ev_lv ‹_› ‹_› LocV.a3 ?_;refine Subscript_ ?_;refine Attribute_any_ ?_ (by k_dflt rfl);refine ev_lv ‹_› ‹_› LocV.a0 ?_;refine at_F_bound ‹_› ‹_› (by k_places) ?_;intro _ _;refine ev_lv ‹_› ‹_› LocV.a1 ?_)
    refine ditem (i:=6) D ‹_› rfl htb ?_ (by k_dflt rfl)
    intro s2 S2
    refine PyProof.Rows.ne_int ?_
    with_reducible (refine wpAny_truthy_bool ?_;refine (by assumption:ImpG _ _) _ _ ?_)
    refine ifB (fun hne=>?_) (fun hne=>?_)
    rotate_left
    · with_reducible (refine wpAny_execs_nil ?_;refine (by assumption:Imp _ _) _ _ ?_)
      exact ⟨rfl,mk3 _ cells _ ⟨D,(mk11 _ _ _ _ _ _ _ _ _ _ _ ⟨rfl,hK.le (by lia)⟩),by assumption⟩⟩
    cases hch with
    | here=>simp at hne
    | @up _ p j hpr hch =>
    refine an2 (hK.pr lb p hpr) ?_;intro hx12 hz13;refine ex3 hz13 ?_;clear hz13;intro jj di kvi hy14;refine an2 hy14 ?_;clear hy14;intro hnr hin
    refine ex1 hx12 ?_;clear hx12;intro tp htp
    have hil:=hK.inn _ (mem_of_get hin)
    have hlen:=hK.len
    dsimp only at hil
    with_reducible (refine nameQ ?_;intro _ _;refine eN ?_;intro _ _ _;refine wpAny_Assign_Subscript ?_ (by k_dflt rfl);refine PyProof.Rows.Constant_bool ?_;refine Subscript_ ?_;refine Attribute_any_ ?_ (by k_dflt rfl);refine ev_lv ‹_› ‹_› LocV.a0 ?_;refine at_F_inner ‹_› ‹_› (by k_places) ?_;intro _ _;refine ev_lv ‹_› ‹_› LocV.a3 ?_)
    refine ditem (i:=2) D ‹_› rfl hnr ?_ (by k_dflt rfl)
    intro s3 S3
    with_reducible (refine ev_lv ‹_› ‹_› LocV.a1 ?_)
    refine dset (i:=jj + 10) D ‹_› (by exact hin) (by lia) ?_
    intro cells2 s4 D2 S4
    have D2':Dcs w cells2 (fl a kSg kRg kNr kLt kPr kCt kBd kCl kSt kRd (inn.set jj (di,stored kvi n (.bool true)))):=D2
    have hK2:=hK.setInn (kv':=stored kvi n (.bool true)) hin (Nat.le_trans (len_stored _ _ _) (by lia))
    clear D D2 S1 S2 S3
    with_reducible (refine (by assumption:Nxt _ _ _ _ _ _ _) _ ?_;refine eI ‹_› ?_;intro _ _ _;refine If_N ?_;intro _ _;refine wpAny_isTrue_Compare1 ?_ (by k_dflt rfl);refine ev_lv ‹_› ‹_› LocV.a3 ?_;refine Attribute_any_ ?_ (by k_dflt rfl);refine ev_lv ‹_› ‹_› LocV.a0 ?_;refine at_F_lets ‹_› ‹_› (by k_places) ?_;intro _ _)
    refine dnotin (i:=3) D2' ‹_› rfl ?_
    intro s5 S5
    with_reducible (refine wpAny_truthy_bool ?_;refine (by assumption:ImpG _ _) _ _ ?_)
    have hkj:N + (k - (j + 1)) + 1≤N + (k - j):=by lia
    refine ifB (fun hb2=>?_) (fun hb2=>?_)
    · with_reducible (refine eA ‹_› ?_;intro _ _ _;refine wpAny_Assign_Subscript ?_ (by k_dflt rfl);refine PyProof.Rows.Constant_bool ?_;refine Attribute_any_ ?_ (by k_dflt rfl);refine ev_lv ‹_› ‹_› LocV.a0 ?_;refine at_F_caught ‹_› ‹_› (by k_places) ?_;intro _ _;refine ev_lv ‹_› ‹_› LocV.a1 ?_)
      refine dset (i:=5) D2' ‹_› rfl (by lia) ?_
      intro cells3 s6 D3 S6
      have D3':Dcs w cells3 (fl a kSg kRg kNr kLt kPr (stored kCt n (.bool true)) kBd kCl kSt kRd (inn.set jj (di,stored kvi n (.bool true)))):=D3
      with_reducible (refine (by assumption:Nxt _ _ _ _ _ _ _) _ ?_;refine wpAny_execs_nil ?_;refine (by assumption:Nxt _ _ _ _ _ _ _) _ ?_;refine eI ‹_› ?_;intro _ _ _;refine wpAny_Assign_Name ?_ (by k_dflt rfl);refine Subscript_ ?_;refine Attribute_any_ ?_ (by k_dflt rfl);refine ev_lv ‹_› ‹_› LocV.a0 ?_;refine at_F_parent ‹_› ‹_› (by k_places) ?_;intro _ _;refine ev_lv ‹_› ‹_› LocV.a3 ?_)
      refine ditem (i:=4) D3' ‹_› rfl htp ?_ (by k_dflt rfl)
      intro s7 S7
      with_reducible (refine st_loc ‹_› ‹_› ?_;refine SetQ.i (SetL.a3) ?_;intro _ _;refine (by assumption:Nxt _ _ _ _ _ _ _) _ ?_;refine wpAny_execs_nil ?_;refine (by assumption:Imp _ _) _ _ ?_)
      exact mk1 j ⟨Nat.lt_succ_self j,mk4 p tp cells3 _ ⟨by lia,hch,D3',(mk11 _ _ _ _ _ _ _ _ _ _ _ ⟨rfl,(hK2.ct (Nat.le_trans (len_stored _ _ _) (by lia))).le hkj⟩),by assumption⟩⟩
    · with_reducible (refine wpAny_execs_nil ?_;refine (by assumption:Nxt _ _ _ _ _ _ _) _ ?_;refine eI ‹_› ?_;intro _ _ _;refine wpAny_Assign_Name ?_ (by k_dflt rfl);refine Subscript_ ?_;refine Attribute_any_ ?_ (by k_dflt rfl);refine ev_lv ‹_› ‹_› LocV.a0 ?_;refine at_F_parent ‹_› ‹_› (by k_places) ?_;intro _ _;refine ev_lv ‹_› ‹_› LocV.a3 ?_)
      refine ditem (i:=4) D2' ‹_› rfl htp ?_ (by k_dflt rfl)
      intro s7 S7
      with_reducible (refine st_loc ‹_› ‹_› ?_;refine SetQ.i (SetL.a3) ?_;intro _ _;refine (by assumption:Nxt _ _ _ _ _ _ _) _ ?_;refine wpAny_execs_nil ?_;refine (by assumption:Imp _ _) _ _ ?_)
      exact mk1 j ⟨Nat.lt_succ_self j,mk4 p tp cells2 _ ⟨by lia,hch,D2',(mk11 _ _ _ _ _ _ _ _ _ _ _ ⟨rfl,hK2.le hkj⟩),by assumption⟩⟩
  · intro f s1 hx15
    refine an2 hx15 ?_;clear hx15;intro hx16 hz17;refine ex3 hz17 ?_;clear hz17;intro m' cells' l' hy18;refine an3 hy18 ?_;clear hy18;intro D1 hf1 S1
    symm at hx16;subst hx16
    try dsimp only
    with_reducible (refine (by assumption:Nxt _ _ _ _ _ _ _) _ ?_;refine wpAny_execs_nil ?_;refine (by assumption:Imp _ _) _ _ ?_)
    exact mk4 _ cells' [] P ⟨by assumption,fun _ h=>h,mk1 l' ⟨rfl,D1,hf1⟩⟩
end
end
section
open PySem.Calls
noncomputable def bdU (bd:Int→Option Int):T→Int→Option Int
  | .lam l ps _=>fun x=>if ps.contains x then some l else bd x
  | _=>bd
noncomputable def prU (pr:Int→Option Int) (lab:Int):T→Int→Option Int
  | .lam l _ _=>fun x=>if x = l then some lab else pr x
  | _=>pr
noncomputable def cnU (cn:Int→Nat):T→Int→Nat
  | .setl n _=>fun x=>if x = n then cn n + 1 else cn x
  | _=>cn
theorem fmm_379 (w:World):findIn (hd.heap_39 w.params) (.ref 379) (Str.ofString "meet") = some (some (.ref 376)):=by kernel_rfl
theorem isfn_376 (w:World):isFn (hd.heap_39 w.params) (.ref 376) = true:=by kernel_rfl
theorem kpf_376 (w:World):keepIn (hd.heap_39 w.params) (.ref 376) = true:=by kernel_rfl
theorem fmb_184 (w:World):findIn (hd.heap_39 w.params) (.ref 184) (Str.ofString "binders") = some (some (.ref 174)):=by kernel_rfl
theorem isfn_174 (w:World):isFn (hd.heap_39 w.params) (.ref 174) = true:=by kernel_rfl
theorem kpf_174 (w:World):keepIn (hd.heap_39 w.params) (.ref 174) = true:=by kernel_rfl
theorem FS.any {a:FA} {bd pr:Int→Option Int} {cn:Int→Nat} {N:Nat} {l:List (Addr × KV)} (h:FS a bd pr cn N l) (k:∀ kSg kRg kNr kLt kPr kCt kBd kCl kSt kRd inn,l = fl a kSg kRg kNr kLt kPr kCt kBd kCl kSt kRd inn→FK bd pr cn N kSg kRg kNr kLt kPr kCt kBd kCl kSt kRd inn→False):False:=by
  refine ex11 h ?_;clear h;intro k1 k2 k3 k4 k5 k6 k7 k8 k9 k10 inn hy1;refine an2 hy1 ?_;clear hy1;intro e h
  exact k _ _ _ _ _ _ _ _ _ _ _ e h
theorem kind1 {t:T} (h:t.kind = 1):∃ n,t = .loc n:=by cases t <;> first | exact ⟨_,rfl⟩ | cases h
section
variable {w:World} {P:Led}
theorem binders {x:Addr} {l:Int} {ps:List Int} {b:T} (h:Nd w P x (.lam l ps b)) (hz:ps.length≤4000):Pure w 3 P (call (.ref 174) [.ref x]) fun P' r=>∃ l vs e,r = .ref l∧(l,listOf vs.toArray e)∈P'∧IntsAre vs ps:=by
  intro c m own s Q E S hdp hu ret
  have X:=S.X
  refine wpAny_call ?_
  (refine enter (K:=hd.heap_39 _) rfl ‹_› (by k_is) (by k_is) (by first | exact bl1 ‹_› | omega) (by exact BindsTo.of_eq rfl) (by exact rfl) (by kernel_rfl) ?_ ‹_›)
  clear ret S
  intro c' s' gN hd' hu' S'
  dsimp only [List.map] at S'
  with_reducible (refine nameQ ?_;intro _ _;refine eN ?_;intro _ _ _;refine wpAny_Return_some ?_;refine IfExpN ?_;intro _ _;refine wpAny_isTrue_Compare1 ?_ (by k_dflt rfl);refine Attribute_any_ ?_ (by k_dflt rfl);refine ev_lv ‹_› ‹_› LocV.a0 ?_;refine at_lam_rest ‹_› ‹_› (by k_places) ?_;intro _ _ _;refine ev_int ‹_› ?_;intro _ _ _)
  refine PySem.P.ge_int ?_
  with_reducible (refine wpAny_truthy_bool ?_;refine (by assumption:ImpG _ _) _ _ ?_;refine ite_df (by k_dflt rfl) ?_;refine callT ‹_› ‹_› (gn_list _) bt_list bt_ne_list mm1 ?_ (by k_dflt rfl);refine Attribute_any_ ?_ (by k_dflt rfl);refine ev_lv ‹_› ‹_› LocV.a0 ?_;refine at_lam_params ‹_› ‹_› (by k_places) ?_;intro _ _ _ _ _ _ _)
  refine list_of (xs:=_) ‹_› ‹_› (fits_le (by rw [IntsAre.length ‹_›];lia)) ?_
  intro D e1 s2 S2
  with_reducible (refine (by assumption:Abr _ _) _ _ (by k_dflt rfl) ?_;refine (by assumption:Imp _ _) _ _ ?_)
  exact Ends.of (own':=[]) S2 (fun p hp=>.tail _ hp) ⟨D,_,_,rfl,.head _,by assumption⟩
theorem note_node {c:Cx} {m:Str→Option Value} {cells rest:Led} {l:List (Addr × KV)} {s:Shared} {Q E:Value→Shared→Prop} {F x:Addr} {a:FA} {bd pr:Int→Option Int} {cn:Int→Nat} {N:Nat} {lab:Int} {u2:Tok} {t:T}
    (hF:FObj w P F a) (hN:Nd w P x t) (hnf:noFix t = true) (hz:t.size≤4000) (D:Dcs w cells l) (S:St w c m (cells ++ rest) P s) (hfs:FS a bd pr cn N l)
    (hmeet:∀ n,(t = .loc n∨∃ v,t = .setl n v)→∃ b k,bd n = some b∧Chain pr b lab k∧k≤60) (hNN:N≤700000) (hdp:c.A.depth + 6 < recursionLimit) (hu:c.A.units + 80 < cLine)
    (ret:∀ cells' l' P' s',Dcs w cells' l'→FS a (bdU bd t) (prU pr lab t) (cnU cn t) (N + 70 + t.nums) l'→St w c m (cells' ++ rest) P' s'→(∀ p∈P,p∈P')→Q .none s'):wpAny (model rw_pq1024_01.row.prog w) c.A (call (.ref 397) [.ref F,.ref x,.int lab u2]) Q E s:=by
  have X:=S.X
  refine wpAny_call ?_
  refine enterG (K:=hd.heap_39 _) (cells:=cells) (rest:=rest) (P:=P) (Out:=fun cs P' r=>∃ l',r = .none∧Dcs w cs l'∧FS a (bdU bd t) (prU pr lab t) (cnU cn t) (N + 70 + t.nums) l') rfl S (by k_is) (by k_is) (by lia) (by exact BindsTo.of_eq rfl) (by exact rfl) (by kernel_rfl) ?_ ?_
  rotate_left
  · intro r cells' P' s' S' hs hx2
    refine ex1 hx2 ?_;clear hx2;intro l' hy4;refine an3 hy4 ?_;clear hy4;intro hx3 hD hf
    symm at hx3;subst hx3
    exact ret _ _ _ _ hD hf S' hs
  intro c' s' gN hd' hu' S'
  dsimp only [List.map] at S'
  have d2:c'.A.depth + 2 < recursionLimit:=by first | exact bl ‹_› ‹_› (by exact rfl) | lia
  have u2':c'.A.units + 8 * 2 < cLine:=by first | exact bl ‹_› ‹_› (by exact rfl) | lia
  have d3:c'.A.depth + 3 < recursionLimit:=by first | exact bl ‹_› ‹_› (by exact rfl) | lia
  have u3':c'.A.units + 8 * 3 < cLine:=by first | exact bl ‹_› ‹_› (by exact rfl) | lia
  clear ret S hdp hd' hu' hu
  rw [← List.append_nil cells] at S'
  refine ex11 hfs ?_;clear hfs;intro kSg kRg kNr kLt kPr kCt kBd kCl kSt kRd inn hy6;refine an2 hy6 ?_;clear hy6;intro hx5 hK
  symm at hx5;subst hx5
  have hlen:=hK.len
  have done:∀ m' cells' l' P' s',St w c' m' (cells' ++ []) P' s'→(∀ p∈P,p∈P')→Dcs w cells' l'→FS a (bdU bd t) (prU pr lab t) (cnU cn t) (N + 70 + t.nums) l'→Ends w c' P (fun cs P' r=>∃ l',r = .none∧Dcs w cs l'∧FS a (bdU bd t) (prU pr lab t) (cnU cn t) (N + 70 + t.nums) l') .none s' :=
    fun m' cells' l' P' s' S hs hD hf=>(mk4 m' cells' [] P' ⟨S,hs,l',rfl,hD,hf⟩)
  cases t
  case fix=>cases hnf
  case cint =>
    with_reducible (refine nameQ ?_;intro _ _;refine eN ?_;intro _ _ _;refine If_N ?_;intro _ _;refine tkE (r:=false) ‹_› ‹_› LocV.a1 ‹_› (by k_places) (g_LOCAL _) mm4 (by k_dflt rfl) (by k_dflt rfl) ?_;intro _ _;refine (by assumption:ImpG _ _) _ _ ?_;refine ite_ff ?_;refine eA ‹_› ?_;intro _ _ _;refine If_N ?_;intro _ _;refine tkE (r:=false) ‹_› ‹_› LocV.a1 ‹_› (by k_places) (g_SET_LOCAL _) mm6 (by k_dflt rfl) (by k_dflt rfl) ?_;intro _ _;refine (by assumption:ImpG _ _) _ _ ?_;refine ite_ff ?_;refine eA ‹_› ?_;intro _ _ _;refine If_N ?_;intro _ _;refine tkE (r:=false) ‹_› ‹_› LocV.a1 ‹_› (by k_places) (g_GLOBAL _) mm7 (by k_dflt rfl) (by k_dflt rfl) ?_;intro _ _;refine (by assumption:ImpG _ _) _ _ ?_;refine ite_ff ?_;refine eA ‹_› ?_;intro _ _ _;refine If_N ?_;intro _ _;refine wpAny_isTrue_Compare1 ?_ (by k_dflt rfl);refine Attribute_any_ ?_ (by k_dflt rfl);refine ev_lv ‹_› ‹_› LocV.a1 ?_;refine at_kind ‹_› ‹_› (by k_places) (by first | assumption | exact rfl) ?_;intro _ _ _;refine Tuple_ ?_;refine sp1 ?_ (by k_dflt rfl);refine ev_glob ‹_› ‹_› (g_SET_GLOBAL _) mm8 ?_;refine sp1 ?_ (by k_dflt rfl);refine ev_glob ‹_› ‹_› (g_DEFINE _) mm9 ?_;refine sp0 ?_;refine nt ‹_› ?_ sl2;intro _ _ _;refine in_tup_ff ‹_› (by k_mem) (.cons _ _ (.cons _ _ .nil)) (by k_dflt rfl) ?_;refine wpAny_truthy_bool ?_;refine (by assumption:ImpG _ _) _ _ ?_;refine ite_ff ?_;refine eA ‹_› ?_;intro _ _ _;refine If_N ?_;intro _ _;refine tkE (r:=false) ‹_› ‹_› LocV.a1 ‹_› (by k_places) (g_FIX _) mm10 (by k_dflt rfl) (by k_dflt rfl) ?_;intro _ _;refine (by assumption:ImpG _ _) _ _ ?_;refine ite_ff ?_;refine eA ‹_› ?_;intro _ _ _;refine If_N ?_;intro _ _;refine tkE (r:=false) ‹_› ‹_› LocV.a1 ‹_› (by k_places) (g_LAMBDA _) mm11 (by k_dflt rfl) (by k_dflt rfl) ?_;intro _ _;refine (by assumption:ImpG _ _) _ _ ?_;refine ite_ff ?_;refine eA ‹_› ?_;intro _ _ _;refine If_N ?_;intro _ _;refine tkE (r:=false) ‹_› ‹_› LocV.a1 ‹_› (by k_places) (g_CALL _) mm12 (by k_dflt rfl) (by k_dflt rfl) ?_;intro _ _;refine (by assumption:ImpG _ _) _ _ ?_;refine ite_ff ?_;refine wpAny_execs_nil ?_;refine (by assumption:Nxt _ _ _ _ _ _ _) _ ?_;refine wpAny_execs_nil ?_;refine (by assumption:Nxt _ _ _ _ _ _ _) _ ?_;refine wpAny_execs_nil ?_;refine (by assumption:Nxt _ _ _ _ _ _ _) _ ?_;refine wpAny_execs_nil ?_;refine (by assumption:Nxt _ _ _ _ _ _ _) _ ?_;refine wpAny_execs_nil ?_;refine (by assumption:Nxt _ _ _ _ _ _ _) _ ?_;refine wpAny_execs_nil ?_;refine (by assumption:Nxt _ _ _ _ _ _ _) _ ?_;refine wpAny_execs_nil ?_;refine (by assumption:Nxt _ _ _ _ _ _ _) _ ?_;refine wpAny_execs_nil ?_;refine (by assumption:Imp _ _) _ _ ?_)
    exact done _ _ _ _ _ ‹_› (by k_places) D (mk11 _ _ _ _ _ _ _ _ _ _ _ ⟨rfl,hK.le (by lia)⟩)
  case cun =>
    with_reducible (refine nameQ ?_;intro _ _;refine eN ?_;intro _ _ _;refine If_N ?_;intro _ _;refine tkE (r:=false) ‹_› ‹_› LocV.a1 ‹_› (by k_places) (g_LOCAL _) mm4 (by k_dflt rfl) (by k_dflt rfl) ?_;intro _ _;refine (by assumption:ImpG _ _) _ _ ?_;refine ite_ff ?_;refine eA ‹_› ?_;intro _ _ _;refine If_N ?_;intro _ _;refine tkE (r:=false) ‹_› ‹_› LocV.a1 ‹_› (by k_places) (g_SET_LOCAL _) mm6 (by k_dflt rfl) (by k_dflt rfl) ?_;intro _ _;refine (by assumption:ImpG _ _) _ _ ?_;refine ite_ff ?_;refine eA ‹_› ?_;intro _ _ _;refine If_N ?_;intro _ _;refine tkE (r:=false) ‹_› ‹_› LocV.a1 ‹_› (by k_places) (g_GLOBAL _) mm7 (by k_dflt rfl) (by k_dflt rfl) ?_;intro _ _;refine (by assumption:ImpG _ _) _ _ ?_;refine ite_ff ?_;refine eA ‹_› ?_;intro _ _ _;refine If_N ?_;intro _ _;refine wpAny_isTrue_Compare1 ?_ (by k_dflt rfl);refine Attribute_any_ ?_ (by k_dflt rfl);refine ev_lv ‹_› ‹_› LocV.a1 ?_;refine at_kind ‹_› ‹_› (by k_places) (by first | assumption | exact rfl) ?_;intro _ _ _;refine Tuple_ ?_;refine sp1 ?_ (by k_dflt rfl);refine ev_glob ‹_› ‹_› (g_SET_GLOBAL _) mm8 ?_;refine sp1 ?_ (by k_dflt rfl);refine ev_glob ‹_› ‹_› (g_DEFINE _) mm9 ?_;refine sp0 ?_;refine nt ‹_› ?_ sl2;intro _ _ _;refine in_tup_ff ‹_› (by k_mem) (.cons _ _ (.cons _ _ .nil)) (by k_dflt rfl) ?_;refine wpAny_truthy_bool ?_;refine (by assumption:ImpG _ _) _ _ ?_;refine ite_ff ?_;refine eA ‹_› ?_;intro _ _ _;refine If_N ?_;intro _ _;refine tkE (r:=false) ‹_› ‹_› LocV.a1 ‹_› (by k_places) (g_FIX _) mm10 (by k_dflt rfl) (by k_dflt rfl) ?_;intro _ _;refine (by assumption:ImpG _ _) _ _ ?_;refine ite_ff ?_;refine eA ‹_› ?_;intro _ _ _;refine If_N ?_;intro _ _;refine tkE (r:=false) ‹_› ‹_› LocV.a1 ‹_› (by k_places) (g_LAMBDA _) mm11 (by k_dflt rfl) (by k_dflt rfl) ?_;intro _ _;refine (by assumption:ImpG _ _) _ _ ?_;refine ite_ff ?_;refine eA ‹_› ?_;intro _ _ _;refine If_N ?_;intro _ _;refine tkE (r:=false) ‹_› ‹_› LocV.a1 ‹_› (by k_places) (g_CALL _) mm12 (by k_dflt rfl) (by k_dflt rfl) ?_;intro _ _;refine (by assumption:ImpG _ _) _ _ ?_;refine ite_ff ?_;refine wpAny_execs_nil ?_;refine (by assumption:Nxt _ _ _ _ _ _ _) _ ?_;refine wpAny_execs_nil ?_;refine (by assumption:Nxt _ _ _ _ _ _ _) _ ?_;refine wpAny_execs_nil ?_;refine (by assumption:Nxt _ _ _ _ _ _ _) _ ?_;refine wpAny_execs_nil ?_;refine (by assumption:Nxt _ _ _ _ _ _ _) _ ?_;refine wpAny_execs_nil ?_;refine (by assumption:Nxt _ _ _ _ _ _ _) _ ?_;refine wpAny_execs_nil ?_;refine (by assumption:Nxt _ _ _ _ _ _ _) _ ?_;refine wpAny_execs_nil ?_;refine (by assumption:Nxt _ _ _ _ _ _ _) _ ?_;refine wpAny_execs_nil ?_;refine (by assumption:Imp _ _) _ _ ?_)
    exact done _ _ _ _ _ ‹_› (by k_places) D (mk11 _ _ _ _ _ _ _ _ _ _ _ ⟨rfl,hK.le (by lia)⟩)
  case seq =>
    with_reducible (refine nameQ ?_;intro _ _;refine eN ?_;intro _ _ _;refine If_N ?_;intro _ _;refine tkE (r:=false) ‹_› ‹_› LocV.a1 ‹_› (by k_places) (g_LOCAL _) mm4 (by k_dflt rfl) (by k_dflt rfl) ?_;intro _ _;refine (by assumption:ImpG _ _) _ _ ?_;refine ite_ff ?_;refine eA ‹_› ?_;intro _ _ _;refine If_N ?_;intro _ _;refine tkE (r:=false) ‹_› ‹_› LocV.a1 ‹_› (by k_places) (g_SET_LOCAL _) mm6 (by k_dflt rfl) (by k_dflt rfl) ?_;intro _ _;refine (by assumption:ImpG _ _) _ _ ?_;refine ite_ff ?_;refine eA ‹_› ?_;intro _ _ _;refine If_N ?_;intro _ _;refine tkE (r:=false) ‹_› ‹_› LocV.a1 ‹_› (by k_places) (g_GLOBAL _) mm7 (by k_dflt rfl) (by k_dflt rfl) ?_;intro _ _;refine (by assumption:ImpG _ _) _ _ ?_;refine ite_ff ?_;refine eA ‹_› ?_;intro _ _ _;refine If_N ?_;intro _ _;refine wpAny_isTrue_Compare1 ?_ (by k_dflt rfl);refine Attribute_any_ ?_ (by k_dflt rfl);refine ev_lv ‹_› ‹_› LocV.a1 ?_;refine at_kind ‹_› ‹_› (by k_places) (by first | assumption | exact rfl) ?_;intro _ _ _;refine Tuple_ ?_;refine sp1 ?_ (by k_dflt rfl);refine ev_glob ‹_› ‹_› (g_SET_GLOBAL _) mm8 ?_;refine sp1 ?_ (by k_dflt rfl);refine ev_glob ‹_› ‹_› (g_DEFINE _) mm9 ?_;refine sp0 ?_;refine nt ‹_› ?_ sl2;intro _ _ _;refine in_tup_ff ‹_› (by k_mem) (.cons _ _ (.cons _ _ .nil)) (by k_dflt rfl) ?_;refine wpAny_truthy_bool ?_;refine (by assumption:ImpG _ _) _ _ ?_;refine ite_ff ?_;refine eA ‹_› ?_;intro _ _ _;refine If_N ?_;intro _ _;refine tkE (r:=false) ‹_› ‹_› LocV.a1 ‹_› (by k_places) (g_FIX _) mm10 (by k_dflt rfl) (by k_dflt rfl) ?_;intro _ _;refine (by assumption:ImpG _ _) _ _ ?_;refine ite_ff ?_;refine eA ‹_› ?_;intro _ _ _;refine If_N ?_;intro _ _;refine tkE (r:=false) ‹_› ‹_› LocV.a1 ‹_› (by k_places) (g_LAMBDA _) mm11 (by k_dflt rfl) (by k_dflt rfl) ?_;intro _ _;refine (by assumption:ImpG _ _) _ _ ?_;refine ite_ff ?_;refine eA ‹_› ?_;intro _ _ _;refine If_N ?_;intro _ _;refine tkE (r:=false) ‹_› ‹_› LocV.a1 ‹_› (by k_places) (g_CALL _) mm12 (by k_dflt rfl) (by k_dflt rfl) ?_;intro _ _;refine (by assumption:ImpG _ _) _ _ ?_;refine ite_ff ?_;refine wpAny_execs_nil ?_;refine (by assumption:Nxt _ _ _ _ _ _ _) _ ?_;refine wpAny_execs_nil ?_;refine (by assumption:Nxt _ _ _ _ _ _ _) _ ?_;refine wpAny_execs_nil ?_;refine (by assumption:Nxt _ _ _ _ _ _ _) _ ?_;refine wpAny_execs_nil ?_;refine (by assumption:Nxt _ _ _ _ _ _ _) _ ?_;refine wpAny_execs_nil ?_;refine (by assumption:Nxt _ _ _ _ _ _ _) _ ?_;refine wpAny_execs_nil ?_;refine (by assumption:Nxt _ _ _ _ _ _ _) _ ?_;refine wpAny_execs_nil ?_;refine (by assumption:Nxt _ _ _ _ _ _ _) _ ?_;refine wpAny_execs_nil ?_;refine (by assumption:Imp _ _) _ _ ?_)
    exact done _ _ _ _ _ ‹_› (by k_places) D (mk11 _ _ _ _ _ _ _ _ _ _ _ ⟨rfl,hK.le (by lia)⟩)
  case glob n =>
    refine ex1 (hK.rg n) ?_;intro cnt hc
    with_reducible (refine nameQ ?_;intro _ _;refine eN ?_;intro _ _ _;refine If_N ?_;intro _ _;refine tkE (r:=false) ‹_› ‹_› LocV.a1 ‹_› (by k_places) (g_LOCAL _) mm4 (by k_dflt rfl) (by k_dflt rfl) ?_;intro _ _;refine (by assumption:ImpG _ _) _ _ ?_;refine ite_ff ?_;refine eA ‹_› ?_;intro _ _ _;refine If_N ?_;intro _ _;refine tkE (r:=false) ‹_› ‹_› LocV.a1 ‹_› (by k_places) (g_SET_LOCAL _) mm6 (by k_dflt rfl) (by k_dflt rfl) ?_;intro _ _;refine (by assumption:ImpG _ _) _ _ ?_;refine ite_ff ?_;refine eA ‹_› ?_;intro _ _ _;refine If_N ?_;intro _ _;refine tkE (r:=true) ‹_› ‹_› LocV.a1 ‹_› (by k_places) (g_GLOBAL _) mm7 (by k_dflt rfl) (by k_dflt rfl) ?_;intro _ _;refine (by assumption:ImpG _ _) _ _ ?_;refine ite_tt ?_;refine eA ‹_› ?_;intro _ _ _;refine wpAny_Expr_any ?_ (by k_dflt rfl) (by k_dflt rfl);refine call2 ‹_› ‹_› (g_count_in _) (kp_count_in _) mm5 ?_ (by k_dflt rfl) (by k_dflt rfl);refine Attribute_any_ ?_ (by k_dflt rfl);refine ev_lv ‹_› ‹_› LocV.a0 ?_;refine at_F_read_globals ‹_› ‹_› (by k_places) ?_;intro _ _;refine Attribute_any_ ?_ (by k_dflt rfl);refine ev_lv ‹_› ‹_› LocV.a1 ?_;refine at_glob ‹_› ‹_› (by k_places) ?_;intro _ _ _;refine And.intro (St.kin ‹_›) ?_)
    refine count_in (i:=1) D ‹_› rfl hc.getD (by lia) (by lia) ?_
    intro cells1 tk1 s1 D1 S1
    with_reducible (refine (by assumption:Nxt _ _ _ _ _ _ _) _ ?_;refine wpAny_execs_nil ?_;refine (by assumption:Nxt _ _ _ _ _ _ _) _ ?_;refine wpAny_execs_nil ?_;refine (by assumption:Nxt _ _ _ _ _ _ _) _ ?_;refine wpAny_execs_nil ?_;refine (by assumption:Nxt _ _ _ _ _ _ _) _ ?_;refine wpAny_execs_nil ?_;refine (by assumption:Imp _ _) _ _ ?_)
    have hl1:=len_stored kRg n (.int ((cnt:Nat) + 1:Int) tk1)
    exact done _ _ _ _ _ ‹_› (by k_places) D1 (mk11 _ _ _ _ _ _ _ _ _ _ _ ⟨rfl,⟨hK.rg.put,hK.cl,hK.rd,hK.st,hK.bd,hK.pr,(by refine nine hlen (by lia) ?_ ?_ ?_ ?_ ?_ ?_ ?_ ?_ ?_ <;> first | exact Nat.le_succ _ | assumption),fun p hp=>Nat.le_trans (hK.inn p hp) (by lia)⟩⟩)
  case loc n =>
    refine ex2 (hmeet n (.inl rfl)) ?_;intro b k hy7;refine an3 hy7 ?_;clear hy7;intro hb hch hk
    refine ex1 (hK.rd n) ?_;intro cnt hc
    refine ex11 (id hF) ?_;intro dF t0 t1 t2 t3 t4 t5 t6 t7 t8 t9 hy8;refine an2 hy8 ?_;clear hy8;intro hF1 hF2
    with_reducible (refine nameQ ?_;intro _ _;refine eN ?_;intro _ _ _;refine If_N ?_;intro _ _;refine tkE (r:=true) ‹_› ‹_› LocV.a1 ‹_› (by k_places) (g_LOCAL _) mm4 (by k_dflt rfl) (by k_dflt rfl) ?_;intro _ _;refine (by assumption:ImpG _ _) _ _ ?_;refine ite_tt ?_;refine eA ‹_› ?_;intro _ _ _;refine wpAny_Expr_any ?_ (by k_dflt rfl) (by k_dflt rfl);refine call2 ‹_› ‹_› (g_count_in _) (kp_count_in _) mm5 ?_ (by k_dflt rfl) (by k_dflt rfl);refine Attribute_any_ ?_ (by k_dflt rfl);refine ev_lv ‹_› ‹_› LocV.a0 ?_;refine at_F_read ‹_› ‹_› (by k_places) ?_;intro _ _;refine Attribute_any_ ?_ (by k_dflt rfl);refine ev_lv ‹_› ‹_› LocV.a1 ?_;refine at_loc ‹_› ‹_› (by k_places) ?_;intro _ _ _;refine And.intro (St.kin ‹_›) ?_)
    refine count_in (i:=9) D ‹_› rfl hc.getD (by lia) (by lia) ?_
    intro cells1 tk1 s1 D1 S1
    with_reducible (refine (by assumption:Nxt _ _ _ _ _ _ _) _ ?_;refine eA ‹_› ?_;intro _ _ _;refine wpAny_Expr_any ?_ (by k_dflt rfl) (by k_dflt rfl);refine MethodCall_ ?_ (by k_dflt rfl);refine ev_lv ‹_› ‹_› LocV.a0 ?_)
    have hl1:=len_stored kRd n (.int ((cnt:Nat) + 1:Int) tk1)
    refine meth2 ‹_› hF1 hF2 (pg_Facts w _) (fmm_379 w) (isfn_376 w) (by exact rfl) (kpf_376 w) ?_ (by k_dflt rfl) (by k_dflt rfl)
    with_reducible (refine Attribute_any_ ?_ (by k_dflt rfl);refine ev_lv ‹_› ‹_› LocV.a1 ?_;refine at_loc ‹_› ‹_› (by k_places) ?_;intro _ _ _;refine ev_lv ‹_› ‹_› LocV.a2 ?_;refine And.intro (St.kin ‹_›) ?_)
    refine meet (N:=N + 1) hF D1 ‹_› (mk11 _ _ _ _ _ _ _ _ _ _ _ ⟨rfl,⟨hK.rg,hK.cl,hK.rd.put,hK.st,hK.bd,hK.pr,(by refine nine hlen (by lia) ?_ ?_ ?_ ?_ ?_ ?_ ?_ ?_ ?_ <;> first | exact Nat.le_succ _ | assumption),fun p hp=>Nat.le_trans (hK.inn p hp) (by lia)⟩⟩) hb hch (by lia) (by lia) ?_
    intro cells2 l2 s2 D2 hf2 S2
    with_reducible (refine (by assumption:Nxt _ _ _ _ _ _ _) _ ?_;refine wpAny_execs_nil ?_;refine (by assumption:Nxt _ _ _ _ _ _ _) _ ?_;refine wpAny_execs_nil ?_;refine (by assumption:Imp _ _) _ _ ?_)
    exact done _ _ _ _ _ ‹_› (by k_places) D2 (hf2.le (by lia))
  case setl n v =>
    refine ex2 (hmeet n (.inr ⟨v,rfl⟩)) ?_;intro b k hy9;refine an3 hy9 ?_;clear hy9;intro hb hch hk
    have hc:=hK.st n
    refine ex11 (id hF) ?_;intro dF t0 t1 t2 t3 t4 t5 t6 t7 t8 t9 hy10;refine an2 hy10 ?_;clear hy10;intro hF1 hF2
    with_reducible (refine nameQ ?_;intro _ _;refine eN ?_;intro _ _ _;refine If_N ?_;intro _ _;refine tkE (r:=false) ‹_› ‹_› LocV.a1 ‹_› (by k_places) (g_LOCAL _) mm4 (by k_dflt rfl) (by k_dflt rfl) ?_;intro _ _;refine (by assumption:ImpG _ _) _ _ ?_;refine ite_ff ?_;refine eA ‹_› ?_;intro _ _ _;refine If_N ?_;intro _ _;refine tkE (r:=true) ‹_› ‹_› LocV.a1 ‹_› (by k_places) (g_SET_LOCAL _) mm6 (by k_dflt rfl) (by k_dflt rfl) ?_;intro _ _;refine (by assumption:ImpG _ _) _ _ ?_;refine ite_tt ?_;refine eA ‹_› ?_;intro _ _ _;refine wpAny_Expr_any ?_ (by k_dflt rfl) (by k_dflt rfl);refine call2 ‹_› ‹_› (g_count_in _) (kp_count_in _) mm5 ?_ (by k_dflt rfl) (by k_dflt rfl);refine Attribute_any_ ?_ (by k_dflt rfl);refine ev_lv ‹_› ‹_› LocV.a0 ?_;refine at_F_set ‹_› ‹_› (by k_places) ?_;intro _ _;refine Attribute_any_ ?_ (by k_dflt rfl);refine ev_lv ‹_› ‹_› LocV.a1 ?_;refine at_setl_number ‹_› ‹_› (by k_places) ?_;intro _ _ _;refine And.intro (St.kin ‹_›) ?_)
    refine count_in (i:=8) D ‹_› rfl hc.getD (by lia) (by lia) ?_
    intro cells1 tk1 s1 D1 S1
    with_reducible (refine (by assumption:Nxt _ _ _ _ _ _ _) _ ?_;refine eA ‹_› ?_;intro _ _ _;refine wpAny_Expr_any ?_ (by k_dflt rfl) (by k_dflt rfl);refine MethodCall_ ?_ (by k_dflt rfl);refine ev_lv ‹_› ‹_› LocV.a0 ?_)
    have hl1:=len_stored kSt n (.int ((cn n:Nat) + 1:Int) tk1)
    refine meth2 ‹_› hF1 hF2 (pg_Facts w _) (fmm_379 w) (isfn_376 w) (by exact rfl) (kpf_376 w) ?_ (by k_dflt rfl) (by k_dflt rfl)
    with_reducible (refine Attribute_any_ ?_ (by k_dflt rfl);refine ev_lv ‹_› ‹_› LocV.a1 ?_;refine at_setl_number ‹_› ‹_› (by k_places) ?_;intro _ _ _;refine ev_lv ‹_› ‹_› LocV.a2 ?_;refine And.intro (St.kin ‹_›) ?_)
    have hst:∀ x,CntIs (stored kSt n (.int ((cn n:Nat) + 1:Int) tk1)) x (cnU cn (.setl n v) x):=fun x=>by
      show CntIs _ x (if x = n then cn n + 1 else cn x)
      by_cases hx:x = n
      · subst hx;rw [if_pos rfl];exact CntIs.put
      · rw [if_neg hx];exact (hK.st x).other hx
    refine meet (N:=N + 1) (cn:=cnU cn (.setl n v)) hF D1 ‹_› (mk11 _ _ _ _ _ _ _ _ _ _ _ ⟨rfl,⟨hK.rg,hK.cl,hK.rd,hst,hK.bd,hK.pr,(by refine nine hlen (by lia) ?_ ?_ ?_ ?_ ?_ ?_ ?_ ?_ ?_ <;> first | exact Nat.le_succ _ | assumption),fun p hp=>Nat.le_trans (hK.inn p hp) (by lia)⟩⟩) hb hch (by lia) (by lia) ?_
    intro cells2 l2 s2 D2 hf2 S2
    with_reducible (refine (by assumption:Nxt _ _ _ _ _ _ _) _ ?_;refine wpAny_execs_nil ?_;refine (by assumption:Nxt _ _ _ _ _ _ _) _ ?_;refine wpAny_execs_nil ?_;refine (by assumption:Nxt _ _ _ _ _ _ _) _ ?_;refine wpAny_execs_nil ?_;refine (by assumption:Imp _ _) _ _ ?_)
    exact done _ _ _ _ _ ‹_› (by k_places) D2 (hf2.le (by lia))
  case lam ll ps b =>
    have hpz:ps.length≤4000:=by simp only [T.size] at hz;lia
    have hnums:(T.lam ll ps b).nums = ps.length:=rfl
    with_reducible (refine nameQ ?_;intro _ _;refine eN ?_;intro _ _ _;refine If_N ?_;intro _ _;refine tkE (r:=false) ‹_› ‹_› LocV.a1 ‹_› (by k_places) (g_LOCAL _) mm4 (by k_dflt rfl) (by k_dflt rfl) ?_;intro _ _;refine (by assumption:ImpG _ _) _ _ ?_;refine ite_ff ?_;refine eA ‹_› ?_;intro _ _ _;refine If_N ?_;intro _ _;refine tkE (r:=false) ‹_› ‹_› LocV.a1 ‹_› (by k_places) (g_SET_LOCAL _) mm6 (by k_dflt rfl) (by k_dflt rfl) ?_;intro _ _;refine (by assumption:ImpG _ _) _ _ ?_;refine ite_ff ?_;refine eA ‹_› ?_;intro _ _ _;refine If_N ?_;intro _ _;refine tkE (r:=false) ‹_› ‹_› LocV.a1 ‹_› (by k_places) (g_GLOBAL _) mm7 (by k_dflt rfl) (by k_dflt rfl) ?_;intro _ _;refine (by assumption:ImpG _ _) _ _ ?_;refine ite_ff ?_;refine eA ‹_› ?_;intro _ _ _;refine If_N ?_;intro _ _;refine wpAny_isTrue_Compare1 ?_ (by k_dflt rfl);refine Attribute_any_ ?_ (by k_dflt rfl);refine ev_lv ‹_› ‹_› LocV.a1 ?_;refine at_kind ‹_› ‹_› (by k_places) (by first | assumption | exact rfl) ?_;intro _ _ _;refine Tuple_ ?_;refine sp1 ?_ (by k_dflt rfl);refine ev_glob ‹_› ‹_› (g_SET_GLOBAL _) mm8 ?_;refine sp1 ?_ (by k_dflt rfl);refine ev_glob ‹_› ‹_› (g_DEFINE _) mm9 ?_;refine sp0 ?_;refine nt ‹_› ?_ sl2;intro _ _ _;refine in_tup_ff ‹_› (by k_mem) (.cons _ _ (.cons _ _ .nil)) (by k_dflt rfl) ?_;refine wpAny_truthy_bool ?_;refine (by assumption:ImpG _ _) _ _ ?_;refine ite_ff ?_;refine eA ‹_› ?_;intro _ _ _;refine If_N ?_;intro _ _;refine tkE (r:=false) ‹_› ‹_› LocV.a1 ‹_› (by k_places) (g_FIX _) mm10 (by k_dflt rfl) (by k_dflt rfl) ?_;intro _ _;refine (by assumption:ImpG _ _) _ _ ?_;refine ite_ff ?_;refine eA ‹_› ?_;intro _ _ _;refine If_N ?_;intro _ _;refine tkE (r:=true) ‹_› ‹_› LocV.a1 ‹_› (by k_places) (g_LAMBDA _) mm11 (by k_dflt rfl) (by k_dflt rfl) ?_;intro _ _;refine (by assumption:ImpG _ _) _ _ ?_;refine ite_tt ?_;refine eA ‹_› ?_;intro _ _ _;refine wpAny_Assign_Subscript ?_ (by k_dflt rfl);refine ev_lv ‹_› ‹_› LocV.a2 ?_;refine Attribute_any_ ?_ (by k_dflt rfl);refine ev_lv ‹_› ‹_› LocV.a0 ?_;refine at_F_parent ‹_› ‹_› (by k_places) ?_;intro _ _;refine Attribute_any_ ?_ (by k_dflt rfl);refine ev_lv ‹_› ‹_› LocV.a1 ?_;refine at_lam_label ‹_› ‹_› (by k_places) ?_;intro _ _ _)
    refine dset (i:=4) D ‹_› rfl (by lia) ?_
    intro cells1 s1 D1 S1
    with_reducible (refine (by assumption:Nxt _ _ _ _ _ _ _) _ ?_;refine eA ‹_› ?_;intro _ _ _;refine wpAny_Assign_Subscript ?_ (by k_dflt rfl))
    refine dnew ‹_› ?_
    intro d0 o0 s2 hd0 hl0 S2
    have D2:Dcs w (cells1 ++ [(d0,o0)]) (fl a kSg kRg kNr kLt (stored kPr ll (.int lab u2)) kCt kBd kCl kSt kRd (inn ++ [(d0,[])])):=D1.append (.cons hd0 hl0 .nil)
    have S3:=S2.perm (own':=(cells1 ++ [(d0,o0)]) ++ []) (by rw [List.append_nil,List.append_nil];exact List.perm_append_comm (l₁:=[(d0,o0)]) (l₂:=cells1))
    clear S1 S2 D1 D
    with_reducible (refine Attribute_any_ ?_ (by k_dflt rfl);refine ev_lv ‹_› ‹_› LocV.a0 ?_;refine at_F_inner ‹_› ‹_› (by k_places) ?_;intro _ _;refine Attribute_any_ ?_ (by k_dflt rfl);refine ev_lv ‹_› ‹_› LocV.a1 ?_;refine at_lam_label ‹_› ‹_› (by k_places) ?_;intro _ _ _)
    refine dset (i:=2) D2 ‹_› rfl (by lia) ?_
    intro cells3 s4 D3 S4
    have D3':Dcs w cells3 (fl a kSg kRg (stored kNr ll (.ref d0)) kLt (stored kPr ll (.int lab u2)) kCt kBd kCl kSt kRd (inn ++ [(d0,[])])):=D3
    clear D3 D2 S3
    have hK3:FK bd (prU pr lab (.lam ll ps b)) cn (N + 1) kSg kRg (stored kNr ll (.ref d0)) kLt (stored kPr ll (.int lab u2)) kCt kBd kCl kSt kRd (inn ++ [(d0,[])]):=by
      have h1:=len_stored kPr ll (.int lab u2)
      have h2:=len_stored kNr ll (.ref d0)
      refine ⟨hK.rg,hK.cl,hK.rd,hK.st,hK.bd,fun x p hx=>?_,(by refine nine hlen (by lia) ?_ ?_ ?_ ?_ ?_ ?_ ?_ ?_ ?_ <;> first | exact Nat.le_succ _ | assumption),fun p hp=>?_⟩
      · have hx':(if x = ll then some lab else pr x) = some p:=hx
        rw [valueAt_stored,valueAt_stored]
        by_cases e:x = ll
        · rw [if_pos e] at hx' ⊢
          rw [if_pos e]
          cases hx'
          exact ⟨⟨u2,rfl⟩,mk3 inn.length d0 [] ⟨rfl,by simp⟩⟩
        · rw [if_neg e] at hx' ⊢
          rw [if_neg e]
          refine an2 (hK.pr x p hx') ?_;intro g1 hz11;refine ex3 hz11 ?_;clear hz11;intro j d kv hy12;refine an2 hy12 ?_;clear hy12;intro g2 g3
          refine ⟨g1,mk3 j d kv ⟨g2,?_⟩⟩
          have hj:j < inn.length:=by
            rcases Nat.lt_or_ge j inn.length with h' | h'
            · exact h'
            · rw [List.getElem?_eq_none h'] at g3;cases g3
          rw [List.getElem?_append_left hj];exact g3
      · rcases List.mem_append.mp hp with hp | hp
        · exact Nat.le_trans (hK.inn p hp) (by lia)
        · rw [List.mem_singleton.mp hp];exact Nat.zero_le _
    with_reducible (refine (by assumption:Nxt _ _ _ _ _ _ _) _ ?_;refine eA ‹_› ?_;intro _ _ _)
    refine For_ ‹_› ?_ (by k_dflt exact fun _=>rfl)
    with_reducible (refine MethodCall_ ?_ (by k_dflt rfl);refine ev_lv ‹_› ‹_› LocV.a1 ?_)
    cases id hN with
    | lam h1 h2 h3 h4 h5 =>
    refine method_inst (St.F ‹_›) (St.X ‹_›) (inst_at ‹_› (.tail _ h1) (.tail _ h2)) (pg_Lambda w _) (fmb_184 w) (isfn_174 w) (by exact rfl) ?_
    refine callWith_K0 (St.kin ‹_›) (kpf_174 w) ?_
    refine useP (binders (hN.mono fun p hp=>.tail _ hp) hpz) ‹_› d3 u3' ?_
    intro r P5 s5 S5 hs5 hx13
    refine ex3 hx13 ?_;clear hx13;intro lb pv ev hy15;refine an3 hy15 ?_;clear hy15;intro hx14 hlb hpv
    symm at hx14;subst hx14
    have hpl:=hpv.length
    have hN5:=hN.mono fun p hp=>hs5 _ (.tail _ hp)
    have hF5:=hF.mono fun p hp=>hs5 _ (.tail _ hp)
    refine forL (vals:=[some (.ref F),some (.ref x),some (.int lab u2),none]) (St.pad 1 (vs:=[some (.ref F),some (.ref x),some (.int lab u2)]) ‹_›) gN hlb (fun i vals₁ own₁ P₁=>∃ v4 l,vals₁ = [some (.ref F),some (.ref x),some (.int lab u2),v4]∧Dcs w own₁ l∧(∀ p∈P5,p∈P₁)∧FS a (fun x=>if (ps.take i).contains x then some ll else bd x) (prU pr lab (.lam ll ps b)) cn (N + 1 + i) l)
      ⟨none,_,rfl,by rw [List.append_nil];exact D3',fun _ h=>h,(mk11 _ _ _ _ _ _ _ _ _ _ _ ⟨rfl,hK3⟩)⟩ ?_ ?_
    · intro i v vals₁ own₁ P₁ P₁' W s₁ Qb hqb hi hv hx16 S6 hs6
      refine ex2 hx16 ?_;clear hx16;intro v4 l1 hy19;refine an4 hy19 ?_;clear hy19;intro hx17 D4 hP4 hx18
      symm at hx17;subst hx17
      refine ex11 hx18 ?_;clear hx18;intro kSg kRg kNr kLt kPr kCt kBd kCl kSt kRd inn hy21;refine an2 hy21 ?_;clear hy21;intro hx20 hK4
      symm at hx20;subst hx20
      refine ex2 (hpv.at _ _ hv) ?_;intro n tk hy23;refine an2 hy23 ?_;clear hy23;intro hx22 hn
      symm at hx22;subst hx22
      have hlen4:=hK4.len
      refine SetQ.i (SetL.a3) ?_
      intro s7 S7
      have hN7:=hN5.mono fun p hp=>hs6 _ (hP4 p hp)
      have hF7:=hF5.mono fun p hp=>hs6 _ (hP4 p hp)
      clear hN hN5 hF hF5 S5 S4 S6
      with_reducible (refine eI ‹_› ?_;intro _ _ _;refine wpAny_Assign_Subscript ?_ (by k_dflt rfl);refine Attribute_any_ ?_ (by k_dflt rfl);refine ev_lv ‹_› ‹_› LocV.a1 ?_;refine at_lam_label ‹_› ‹_› (by k_places) ?_;intro _ _ _;refine Attribute_any_ ?_ (by k_dflt rfl);refine ev_lv ‹_› ‹_› LocV.a0 ?_;refine at_F_bound ‹_› ‹_› (by k_places) ?_;intro _ _;refine ev_lv ‹_› ‹_› LocV.a3 ?_)
      refine dset (i:=6) D4 ‹_› rfl (by lia) ?_
      intro cells8 s8 D8 S8
      rename_i tkl _ _ _
      have hl8:=len_stored kBd n (.int ll tkl)
      with_reducible (refine (by assumption:Nxt _ _ _ _ _ _ _) _ ?_;refine wpAny_execs_nil ?_;refine (by assumption:Imp _ _) _ _ ?_)
      refine mk3 _ cells8 P₁' ⟨S8,fun _ h=>h,mk2 _ _ ⟨rfl,D8,fun p hp=>hs6 _ (hP4 _ hp),(mk11 _ _ _ _ _ _ _ _ _ _ _ ⟨rfl,⟨hK4.rg,hK4.cl,hK4.rd,hK4.st,fun y b' hy=>?_,hK4.pr,(by refine nine hlen4 (by lia) ?_ ?_ ?_ ?_ ?_ ?_ ?_ ?_ ?_ <;> first | exact Nat.le_succ _ | assumption),fun p hp=>Nat.le_trans (hK4.inn p hp) (by lia)⟩⟩)⟩⟩
      have hy':(if (ps.take (i + 1)).contains y then some ll else bd y) = some b':=hy
      rw [List.take_add_one,hn] at hy'
      rw [valueAt_stored]
      by_cases e:y = n
      · rw [if_pos e]
        rw [if_pos (by rw [e];simp)] at hy'
        cases hy'
        exact mk1 _ rfl
      · rw [if_neg e]
        have e2:(ps.take i ++ (some n).toList).contains y = (ps.take i).contains y:=by
          rw [Bool.eq_iff_iff];simp [e]
        rw [e2] at hy'
        exact hK4.bd y b' hy'
    · intro vals' own' P' s6 S6 hx24
      refine ex2 hx24 ?_;clear hx24;intro v4 l1 hy26;refine an4 hy26 ?_;clear hy26;intro hx25 D4 hP4 hf4
      symm at hx25;subst hx25
      try dsimp only
      rw [hpl,List.take_length] at hf4
      with_reducible (refine (by assumption:Nxt _ _ _ _ _ _ _) _ ?_;refine wpAny_execs_nil ?_;refine (by assumption:Nxt _ _ _ _ _ _ _) _ ?_;refine wpAny_execs_nil ?_;refine (by assumption:Nxt _ _ _ _ _ _ _) _ ?_;refine wpAny_execs_nil ?_;refine (by assumption:Nxt _ _ _ _ _ _ _) _ ?_;refine wpAny_execs_nil ?_;refine (by assumption:Nxt _ _ _ _ _ _ _) _ ?_;refine wpAny_execs_nil ?_;refine (by assumption:Nxt _ _ _ _ _ _ _) _ ?_;refine wpAny_execs_nil ?_;refine (by assumption:Nxt _ _ _ _ _ _ _) _ ?_;refine wpAny_execs_nil ?_;refine (by assumption:Imp _ _) _ _ ?_)
      exact done _ own' _ P' _ (by rw [List.append_nil];assumption) (fun p hp=>hP4 _ (hs5 _ (.tail _ hp))) D4 (hf4.le (by lia))
  case call f xs =>
    with_reducible (refine nameQ ?_;intro _ _;refine eN ?_;intro _ _ _;refine If_N ?_;intro _ _;refine tkE (r:=false) ‹_› ‹_› LocV.a1 ‹_› (by k_places) (g_LOCAL _) mm4 (by k_dflt rfl) (by k_dflt rfl) ?_;intro _ _;refine (by assumption:ImpG _ _) _ _ ?_;refine ite_ff ?_;refine eA ‹_› ?_;intro _ _ _;refine If_N ?_;intro _ _;refine tkE (r:=false) ‹_› ‹_› LocV.a1 ‹_› (by k_places) (g_SET_LOCAL _) mm6 (by k_dflt rfl) (by k_dflt rfl) ?_;intro _ _;refine (by assumption:ImpG _ _) _ _ ?_;refine ite_ff ?_;refine eA ‹_› ?_;intro _ _ _;refine If_N ?_;intro _ _;refine tkE (r:=false) ‹_› ‹_› LocV.a1 ‹_› (by k_places) (g_GLOBAL _) mm7 (by k_dflt rfl) (by k_dflt rfl) ?_;intro _ _;refine (by assumption:ImpG _ _) _ _ ?_;refine ite_ff ?_;refine eA ‹_› ?_;intro _ _ _;refine If_N ?_;intro _ _;refine wpAny_isTrue_Compare1 ?_ (by k_dflt rfl);refine Attribute_any_ ?_ (by k_dflt rfl);refine ev_lv ‹_› ‹_› LocV.a1 ?_;refine at_kind ‹_› ‹_› (by k_places) (by first | assumption | exact rfl) ?_;intro _ _ _;refine Tuple_ ?_;refine sp1 ?_ (by k_dflt rfl);refine ev_glob ‹_› ‹_› (g_SET_GLOBAL _) mm8 ?_;refine sp1 ?_ (by k_dflt rfl);refine ev_glob ‹_› ‹_› (g_DEFINE _) mm9 ?_;refine sp0 ?_;refine nt ‹_› ?_ sl2;intro _ _ _;refine in_tup_ff ‹_› (by k_mem) (.cons _ _ (.cons _ _ .nil)) (by k_dflt rfl) ?_;refine wpAny_truthy_bool ?_;refine (by assumption:ImpG _ _) _ _ ?_;refine ite_ff ?_;refine eA ‹_› ?_;intro _ _ _;refine If_N ?_;intro _ _;refine tkE (r:=false) ‹_› ‹_› LocV.a1 ‹_› (by k_places) (g_FIX _) mm10 (by k_dflt rfl) (by k_dflt rfl) ?_;intro _ _;refine (by assumption:ImpG _ _) _ _ ?_;refine ite_ff ?_;refine eA ‹_› ?_;intro _ _ _;refine If_N ?_;intro _ _;refine tkE (r:=false) ‹_› ‹_› LocV.a1 ‹_› (by k_places) (g_LAMBDA _) mm11 (by k_dflt rfl) (by k_dflt rfl) ?_;intro _ _;refine (by assumption:ImpG _ _) _ _ ?_;refine ite_ff ?_;refine eA ‹_› ?_;intro _ _ _;refine If_N ?_;intro _ _;refine tkE (r:=true) ‹_› ‹_› LocV.a1 ‹_› (by k_places) (g_CALL _) mm12 (by k_dflt rfl) (by k_dflt rfl) ?_;intro _ _;refine (by assumption:ImpG _ _) _ _ ?_;refine ite_tt ?_;refine eA ‹_› ?_;intro _ _ _;refine If_N ?_;intro _ _;refine wpAny_isTrue_Compare1 ?_ (by k_dflt rfl);refine Attribute_any_ ?_ (by k_dflt rfl);refine Attribute_any_ ?_ (by k_dflt rfl);refine ev_lv ‹_› ‹_› LocV.a1 ?_;refine at_call_operator ‹_› ‹_› (by k_places) ?_;intro _ _ _ _;refine at_kind ‹_› ‹_› (by k_places) (by first | assumption | exact rfl) ?_;intro _ _ _;refine ev_glob ‹_› ‹_› (g_LOCAL _) mm4 ?_;refine eq_int ?_;refine wpAny_truthy_bool ?_;refine (by assumption:ImpG _ _) _ _ ?_)
    refine ifB (fun hb=>?_) (fun hb=>?_)
    · refine ex1 (kind1 (eq_of_beq hb)) ?_;intro n hx27
      symm at hx27;subst hx27
      refine ex1 (hK.cl n) ?_;intro cnt hc
      with_reducible (refine eA ‹_› ?_;intro _ _ _;refine wpAny_Expr_any ?_ (by k_dflt rfl) (by k_dflt rfl);refine call2 ‹_› ‹_› (g_count_in _) (kp_count_in _) mm5 ?_ (by k_dflt rfl) (by k_dflt rfl);refine Attribute_any_ ?_ (by k_dflt rfl);refine ev_lv ‹_› ‹_› LocV.a0 ?_;refine at_F_called ‹_› ‹_› (by k_places) ?_;intro _ _;refine Attribute_any_ ?_ (by k_dflt rfl);refine Attribute_any_ ?_ (by k_dflt rfl);refine ev_lv ‹_› ‹_› LocV.a1 ?_;refine at_call_operator ‹_› ‹_› (by k_places) ?_;intro _ _ _ _;refine at_loc ‹_› ‹_› (by k_places) ?_;intro _ _ _;refine And.intro (St.kin ‹_›) ?_)
      refine count_in (i:=7) D ‹_› rfl hc.getD (by lia) (by lia) ?_
      intro cells1 tk1 s1 D1 S1
      have hl1:=len_stored kCl n (.int ((cnt:Nat) + 1:Int) tk1)
      with_reducible (refine (by assumption:Nxt _ _ _ _ _ _ _) _ ?_;refine wpAny_execs_nil ?_;refine (by assumption:Nxt _ _ _ _ _ _ _) _ ?_;refine eA ‹_› ?_;intro _ _ _;refine If_N ?_;intro _ _;refine isTrue_plain ?_ (by k_dflt rfl);refine call1 ‹_› ‹_› (g_is_let _) (kp_is_let _) mm13 ?_ (by k_dflt rfl);refine ev_lv ‹_› ‹_› LocV.a1 ?_;refine And.intro (St.kin ‹_›) ?_)
      refine useP (is_let (hN.mono fun p hp=>List.mem_cons_of_mem _ hp) hz) ‹_› d2 u2' ?_
      rintro r P2 s2 S2 hs2 rfl
      have hfa:isLet (T.call (.loc n) xs) = false:=rfl
      rw [hfa]
      with_reducible (refine wpAny_truthy_bool ?_;refine (by assumption:ImpG _ _) _ _ ?_;refine ite_ff ?_;refine wpAny_execs_nil ?_;refine (by assumption:Nxt _ _ _ _ _ _ _) _ ?_;refine wpAny_execs_nil ?_;refine (by assumption:Nxt _ _ _ _ _ _ _) _ ?_;refine wpAny_execs_nil ?_;refine (by assumption:Nxt _ _ _ _ _ _ _) _ ?_;refine wpAny_execs_nil ?_;refine (by assumption:Nxt _ _ _ _ _ _ _) _ ?_;refine wpAny_execs_nil ?_;refine (by assumption:Nxt _ _ _ _ _ _ _) _ ?_;refine wpAny_execs_nil ?_;refine (by assumption:Nxt _ _ _ _ _ _ _) _ ?_;refine wpAny_execs_nil ?_;refine (by assumption:Nxt _ _ _ _ _ _ _) _ ?_;refine wpAny_execs_nil ?_;refine (by assumption:Nxt _ _ _ _ _ _ _) _ ?_;refine wpAny_execs_nil ?_;refine (by assumption:Imp _ _) _ _ ?_)
      exact done _ _ _ _ _ ‹_› (fun p hp=>hs2 _ (.tail _ hp)) D1 (mk11 _ _ _ _ _ _ _ _ _ _ _ ⟨rfl,⟨hK.rg,hK.cl.put,hK.rd,hK.st,hK.bd,hK.pr,(by refine nine hlen (by lia) ?_ ?_ ?_ ?_ ?_ ?_ ?_ ?_ ?_ <;> first | exact Nat.le_succ _ | assumption),fun p hp=>Nat.le_trans (hK.inn p hp) (by lia)⟩⟩)
    · with_reducible (refine wpAny_execs_nil ?_;refine (by assumption:Nxt _ _ _ _ _ _ _) _ ?_;refine eA ‹_› ?_;intro _ _ _;refine If_N ?_;intro _ _;refine isTrue_plain ?_ (by k_dflt rfl);refine call1 ‹_› ‹_› (g_is_let _) (kp_is_let _) mm13 ?_ (by k_dflt rfl);refine ev_lv ‹_› ‹_› LocV.a1 ?_;refine And.intro (St.kin ‹_›) ?_)
      refine useP (is_let (hN.mono fun p hp=>List.mem_cons_of_mem _ hp) hz) ‹_› d2 u2' ?_
      rintro r P2 s2 S2 hs2 rfl
      with_reducible (refine wpAny_truthy_bool ?_;refine (by assumption:ImpG _ _) _ _ ?_)
      refine ifB (fun hb2=>?_) (fun hb2=>?_)
      · refine ex4 (isLet_true hb2) ?_;intro l2 ps b xs2 hy28;refine an2 hy28 ?_;clear hy28;intro e _
        cases e
        have hN2:=hN.mono fun p hp=>hs2 _ (.tail _ hp)
        have hF2:=hF.mono fun p hp=>hs2 _ (.tail _ hp)
        clear hN hF
        with_reducible (refine eA ‹_› ?_;intro _ _ _;refine wpAny_Assign_Subscript ?_ (by k_dflt rfl);refine PyProof.Rows.Constant_bool ?_;refine Attribute_any_ ?_ (by k_dflt rfl);refine ev_lv ‹_› ‹_› LocV.a0 ?_;refine at_F_lets ‹_› ‹_› (by k_places) ?_;intro _ _;refine Attribute_any_ ?_ (by k_dflt rfl);refine Attribute_any_ ?_ (by k_dflt rfl);refine ev_lv ‹_› ‹_› LocV.a1 ?_;refine at_call_operator ‹_› ‹_› (by k_places) ?_;intro _ _ _ _;refine at_lam_label ‹_› ‹_› (by k_places) ?_;intro _ _ _)
        refine dset (i:=3) D ‹_› rfl (by lia) ?_
        intro cells3 s3 D3 S3
        with_reducible (refine (by assumption:Nxt _ _ _ _ _ _ _) _ ?_;refine wpAny_execs_nil ?_;refine (by assumption:Nxt _ _ _ _ _ _ _) _ ?_;refine wpAny_execs_nil ?_;refine (by assumption:Nxt _ _ _ _ _ _ _) _ ?_;refine wpAny_execs_nil ?_;refine (by assumption:Nxt _ _ _ _ _ _ _) _ ?_;refine wpAny_execs_nil ?_;refine (by assumption:Nxt _ _ _ _ _ _ _) _ ?_;refine wpAny_execs_nil ?_;refine (by assumption:Nxt _ _ _ _ _ _ _) _ ?_;refine wpAny_execs_nil ?_;refine (by assumption:Nxt _ _ _ _ _ _ _) _ ?_;refine wpAny_execs_nil ?_;refine (by assumption:Nxt _ _ _ _ _ _ _) _ ?_;refine wpAny_execs_nil ?_;refine (by assumption:Nxt _ _ _ _ _ _ _) _ ?_;refine wpAny_execs_nil ?_;refine (by assumption:Imp _ _) _ _ ?_)
        have hl3:=len_stored kLt l2 (.bool true)
        exact done _ _ _ _ _ ‹_› (fun p hp=>hs2 _ (.tail _ hp)) D3 (mk11 _ _ _ _ _ _ _ _ _ _ _ ⟨rfl,⟨hK.rg,hK.cl,hK.rd,hK.st,hK.bd,hK.pr,(by refine nine hlen (by lia) ?_ ?_ ?_ ?_ ?_ ?_ ?_ ?_ ?_ <;> first | exact Nat.le_succ _ | assumption),fun p hp=>Nat.le_trans (hK.inn p hp) (by lia)⟩⟩)
      · with_reducible (refine wpAny_execs_nil ?_;refine (by assumption:Nxt _ _ _ _ _ _ _) _ ?_;refine wpAny_execs_nil ?_;refine (by assumption:Nxt _ _ _ _ _ _ _) _ ?_;refine wpAny_execs_nil ?_;refine (by assumption:Nxt _ _ _ _ _ _ _) _ ?_;refine wpAny_execs_nil ?_;refine (by assumption:Nxt _ _ _ _ _ _ _) _ ?_;refine wpAny_execs_nil ?_;refine (by assumption:Nxt _ _ _ _ _ _ _) _ ?_;refine wpAny_execs_nil ?_;refine (by assumption:Nxt _ _ _ _ _ _ _) _ ?_;refine wpAny_execs_nil ?_;refine (by assumption:Nxt _ _ _ _ _ _ _) _ ?_;refine wpAny_execs_nil ?_;refine (by assumption:Nxt _ _ _ _ _ _ _) _ ?_;refine wpAny_execs_nil ?_;refine (by assumption:Imp _ _) _ _ ?_)
        exact done _ _ _ _ _ ‹_› (fun p hp=>hs2 _ (.tail _ hp)) D (mk11 _ _ _ _ _ _ _ _ _ _ _ ⟨rfl,hK.le (by lia)⟩)
end
end
section
open PySem.Calls
noncomputable def T.hereLab:T→List Int
  | .lam l _ _=>[l]
  | _=>[]
noncomputable def T.hereBind:T→List Int
  | .lam _ ps _=>ps
  | _=>[]
theorem labs_eq (t:T):labs t = t.hereLab ++ labss t.kids:=by
  cases t <;> simp [labs,T.hereLab,T.kids,labss,labss_append]
theorem binds_eq (t:T):binds t = t.hereBind ++ bindss t.kids:=by
  cases t <;> simp [binds,T.hereBind,T.kids,bindss,bindss_append]
noncomputable def within (lab:Int):T→Int
  | .lam l _ _=>l
  | _=>lab
noncomputable def VOk (bd pr:Int→Option Int) (t:T) (lab:Int):Prop:=∃ vis,Sc vis t∧∀ n∈vis,∃ b k,bd n = some b∧Chain pr b lab k∧k + t.dep≤60
structure FInv (root:T) (bd pr:Int→Option Int) (cn:Int→Nat) (ws:List (T × Int)):Prop where
  ok:∀ p∈ws,VOk bd pr p.1 p.2
  ln:(labss (ws.map (·.1))).Nodup
  lf:∀ l∈labss (ws.map (·.1)),pr l = none
  bn:(bindss (ws.map (·.1))).Nodup
  bf:∀ n∈bindss (ws.map (·.1)),bd n = none
  ct:∀ x,cn x + (setns (ws.map (·.1))).count x = (setn root).count x
theorem prU_keep {pr:Int→Option Int} {lab:Int} {t:T} (h:∀ l∈t.hereLab,pr l = none) {x p:Int} (hx:pr x = some p):prU pr lab t x = some p:=by
  cases t with
  | lam l ps b =>
    show (if x = l then some lab else pr x) = some p
    rw [if_neg (fun e=>by rw [e,h l (.head _)] at hx;cases hx)];exact hx
  | _=>exact hx
theorem bdU_keep {bd:Int→Option Int} {t:T} (h:∀ n∈t.hereBind,bd n = none) {x b:Int} (hx:bd x = some b):bdU bd t x = some b:=by
  cases t with
  | lam l ps b' =>
    show (if ps.contains x then some l else bd x) = some b
    rw [if_neg (fun e=>by rw [h x (show x∈ps by simpa using e)] at hx;cases hx)];exact hx
  | _=>exact hx
theorem prU_none {pr:Int→Option Int} {lab:Int} {t:T} {x:Int} (h:x ∉ t.hereLab) (hx:pr x = none):prU pr lab t x = none:=by
  cases t with
  | lam l ps b =>
    show (if x = l then some lab else pr x) = none
    rw [if_neg (fun e=>h (by rw [e];exact .head _))];exact hx
  | _=>exact hx
theorem bdU_none {bd:Int→Option Int} {t:T} {x:Int} (h:x ∉ t.hereBind) (hx:bd x = none):bdU bd t x = none:=by
  cases t with
  | lam l ps b' =>
    show (if ps.contains x then some l else bd x) = none
    rw [if_neg (fun e=>h (by show x∈ps;simpa using e))];exact hx
  | _=>exact hx
theorem VOk.keep {bd pr:Int→Option Int} {lab:Int} {t:T} (h1:∀ l∈t.hereLab,pr l = none) (h2:∀ n∈t.hereBind,bd n = none) {u:T} {lb:Int} (h:VOk bd pr u lb):VOk (bdU bd t) (prU pr lab t) u lb:=by
  refine ex1 h ?_;clear h;intro vis hy1;refine an2 hy1 ?_;clear hy1;intro hs hv
  refine mk1 vis ⟨hs,fun n hn=>?_⟩
  refine ex2 (hv n hn) ?_;intro b k hy2;refine an3 hy2 ?_;clear hy2;intro e1 e2 e3
  exact mk2 b k ⟨bdU_keep h2 e1,e2.mono fun x p hx=>prU_keep h1 hx,e3⟩
theorem VOk.kid {bd pr:Int→Option Int} {lab:Int} {t k:T} (h1:∀ l∈t.hereLab,pr l = none) (h2:∀ n∈t.hereBind,bd n = none) (h:VOk bd pr t lab) (hd:t.dep≤60) (hk:k∈t.kids):VOk (bdU bd t) (prU pr lab t) k (within lab t):=by
  have hkd:=dep_kid hk
  refine ex1 h ?_;clear h;intro vis hy3;refine an2 hy3 ?_;clear hy3;intro hs hv
  have plain:(within lab t = lab)→Sc vis k→VOk (bdU bd t) (prU pr lab t) k (within lab t):=fun e hs=>by
    rw [e]
    refine mk1 vis ⟨hs,fun n hn=>?_⟩
    refine ex2 (hv n hn) ?_;intro b j hy4;refine an3 hy4 ?_;clear hy4;intro e1 e2 e3
    exact mk2 b j ⟨bdU_keep h2 e1,e2.mono fun x p hx=>prU_keep h1 hx,by lia⟩
  cases t with
  | cint i=>cases hk
  | cun=>cases hk
  | loc n=>cases hk
  | glob n=>cases hk
  | setl n v=>cases List.mem_singleton.mp hk;exact plain rfl hs.2
  | lam l ps b =>
    cases List.mem_singleton.mp hk
    refine mk1 (ps ++ vis) ⟨hs,fun n hn=>?_⟩
    by_cases hp:n∈ps
    · refine mk2 l (0) ⟨?_,.here,by lia⟩
      show (if ps.contains n then some l else bd n) = some l
      rw [if_pos (by simpa using hp)]
    · rcases List.mem_append.mp hn with hn | hn
      · exact absurd hn hp
      · refine ex2 (hv n hn) ?_;intro b' j hy5;refine an3 hy5 ?_;clear hy5;intro e1 e2 e3
        refine mk2 b' (j + 1) ⟨bdU_keep h2 e1,.up (p:=lab) ?_ (e2.mono fun x p hx=>prU_keep h1 hx),by lia⟩
        show (if l = l then some lab else pr l) = some lab
        rw [if_pos rfl]
  | call f xs =>
    rcases List.mem_cons.mp hk with rfl | hk
    · exact plain rfl hs.1
    · exact plain rfl (Scs_mem hs.2 hk)
  | seq xs=>exact plain rfl (Scs_mem hs hk)
  | fix ns ls b=>exact hs.elim
theorem FInv.step {root t:T} {lab:Int} {bd pr:Int→Option Int} {cn:Int→Nat} {ws:List (T × Int)} (h:FInv root bd pr cn ((t,lab)::ws)) (hd:t.dep≤60) :
    FInv root (bdU bd t) (prU pr lab t) (cnU cn t) (t.kids.map (fun k=>(k,within lab t)) ++ ws):=by
  have em:(t.kids.map (fun k=>(k,within lab t)) ++ ws).map (·.1) = t.kids ++ ws.map (·.1):=by
    rw [List.map_append,List.map_map]
    congr 1
    exact List.map_id t.kids
  have el:labss (((t,lab)::ws).map (·.1)) = t.hereLab ++ (labss t.kids ++ labss (ws.map (·.1))):=by
    rw [List.map_cons,labss,labs_eq,List.append_assoc]
  have eb:bindss (((t,lab)::ws).map (·.1)) = t.hereBind ++ (bindss t.kids ++ bindss (ws.map (·.1))):=by
    rw [List.map_cons,bindss,binds_eq,List.append_assoc]
  have h1:=h.ln
  have h2:=h.lf
  have h3:=h.bn
  have h4:=h.bf
  have h5:=h.ct
  rw [el] at h1 h2
  rw [eb] at h3 h4
  have n1:=List.nodup_append.mp h1
  have n3:=List.nodup_append.mp h3
  have f1:∀ l∈t.hereLab,pr l = none:=fun l hl=>h2 l (List.mem_append_left _ hl)
  have f2:∀ n∈t.hereBind,bd n = none:=fun n hn=>h4 n (List.mem_append_left _ hn)
  refine ⟨fun p hp=>?_,by rw [em,labss_append];exact n1.2.1,fun l hl=>?_,by rw [em,bindss_append];exact n3.2.1,fun n hn=>?_,fun x=>?_⟩
  · rcases List.mem_append.mp hp with hp | hp
    · refine ex1 (List.mem_map.mp hp) ?_;intro k hy7;refine an2 hy7 ?_;clear hy7;intro hk hx6
      symm at hx6;subst hx6
      exact (h.ok _ (.head _)).kid f1 f2 hd hk
    · exact (h.ok p (.tail _ hp)).keep f1 f2
  · rw [em,labss_append] at hl
    exact prU_none (fun hm=>n1.2.2 l hm l hl rfl) (h2 l (List.mem_append_right _ hl))
  · rw [em,bindss_append] at hn
    exact bdU_none (fun hm=>n3.2.2 n hm n hn rfl) (h4 n (List.mem_append_right _ hn))
  · rw [em,setns_append,List.count_append]
    have h6:=h5 x
    rw [List.map_cons,setns,List.count_append,setn_eq t,List.count_append] at h6
    have e:cnU cn t x = cn x + (t.hereSet).count x:=by
      cases t with
      | setl n v =>
        show (if x = n then cn n + 1 else cn x) = cn x + [n].count x
        by_cases hx:x = n
        · subst hx;simp
        · rw [if_neg hx,List.count_eq_zero_of_not_mem (by simpa using hx)];rfl
      | _=>rfl
    rw [e];lia
theorem FInv.meets {root t:T} {lab:Int} {bd pr:Int→Option Int} {cn:Int→Nat} {ws:List (T × Int)} (h:FInv root bd pr cn ((t,lab)::ws)):∀ n,(t = .loc n∨∃ v,t = .setl n v)→∃ b k,bd n = some b∧Chain pr b lab k∧k≤60:=by
  intro n hn
  refine ex1 (h.ok _ (.head _)) ?_;intro vis hy8;refine an2 hy8 ?_;clear hy8;intro hs hv
  rcases hn with e | ⟨v,e⟩
  · have e':t = .loc n:=e
    subst e'
    refine ex2 (hv n hs) ?_;intro b k hy9;refine an3 hy9 ?_;clear hy9;intro e1 e2 e3
    exact mk2 b k ⟨e1,e2,by lia⟩
  · have e':t = .setl n v:=e
    subst e'
    refine ex2 (hv n hs.1) ?_;intro b k hy10;refine an3 hy10 ?_;clear hy10;intro e1 e2 e3
    exact mk2 b k ⟨e1,e2,by lia⟩
theorem FInv.noFix {root t:T} {lab:Int} {bd pr:Int→Option Int} {cn:Int→Nat} {ws:List (T × Int)} (h:FInv root bd pr cn ((t,lab)::ws)):noFix t = true:=by
  refine ex1 (h.ok _ (.head _)) ?_;intro vis hy11;refine an2 hy11 ?_;clear hy11;intro hs _
  cases t <;> first | rfl | exact hs.elim
noncomputable def LR (w:World) (P:Led) (v:Value) (p:T × Int):Prop:=∃ T a tk e,v = .ref T∧(T,tupOf [.ref a,.int p.2 tk] e)∈P∧Nd w P a p.1
theorem LR.mono {w:World} (P P':Led) (v:Value) (p:T × Int) (hs:∀ p∈P,p∈P'):LR w P v p→LR w P' v p:=fun ⟨T,a,tk,e,h1,h2,h3⟩=>⟨T,a,tk,e,h1,hs _ h2,h3.mono hs⟩
structure Built (t:T):Prop where
  sc:Sc [] t
  ln:(labs t).Nodup
  bn:(binds t).Nodup
  sz:t.size≤1990
  dp:t.dep≤50
section
variable {w:World} {c:Cx} {m:Str→Option Value} {own P:Led} {s:Shared} {E Q:Value→Shared→Prop} {cn:Str} {a:Addr} {ccd:Value} {cl:List (Str × Addr)}
theorem call0 {ns:List (Str × NameKind)} {mo:List (Str × Const)} {x:Str} {px pos:Pos} {fv:Value} (S:St w c m own P s) (g:goodNs ns = true) (e:nsIn (hd.heap_39 w.params) mainGlobals x = some (some fv)) (hkp:keepIn (hd.heap_39 w.params) fv = true) (hx:(x,NameKind.globalImplicit)∈ns)
    (h:wpAny (model rw_pq1024_01.row.prog w) c.A (call fv []) Q E s) :
    wpAny (model rw_pq1024_01.row.prog w) c.A (eval (.Call (.Name x px) [] [] pos) (envX cn (fnSc ns mo) c.L a ccd cl)) Q E s :=
  Call_ (ev_glob S g e hx (callWith_K0 S.kin hkp h))
end
theorem kind7 {t:T} (h:t.kind = 7):∃ l ps b,t = .lam l ps b:=by cases t <;> first | exact ⟨_,_,_,rfl⟩ | cases h
theorem within_other {t:T} {lab:Int} (h:¬ t.kind = 7):within lab t = lab:=by
  cases t <;> first | rfl | exact absurd rfl h
section
variable {w:World} {P:Led}
theorem facts_of {nl a:Addr} {e:Nat} {t:T} (hN:Nd w P a t) (hnl:(nl,listOf [.ref a].toArray e)∈P) (hb:Built t) :
    Pure w 20 P (call (.ref 404) [.ref nl]) fun P' r=>∃ F,r = .ref F∧FSet w P' F (fun x=>(setn t).count x):=by
  intro c m own s Q E S hdp hu ret
  have X:=S.X
  refine wpAny_call ?_
  (refine enter (K:=hd.heap_39 _) rfl ‹_› (by k_is) (by k_is) (by first | exact bl1 ‹_› | omega) (by exact BindsTo.of_eq rfl) (by exact rfl) (by kernel_rfl) ?_ ‹_›)
  clear ret S
  intro c' s' gN hd' hu' S'
  dsimp only [List.map] at S'
  have d6:c'.A.depth + 6 < recursionLimit:=by first | exact bl ‹_› ‹_› (by decide) | lia
  have u8:c'.A.units + 80 < cLine:=by first | exact bl ‹_› ‹_› (by decide) | lia
  have d2:c'.A.depth + 2 < recursionLimit:=by first | exact bl ‹_› ‹_› (by decide) | lia
  have u2:c'.A.units + 16 < cLine:=by first | exact bl ‹_› ‹_› (by decide) | lia
  with_reducible (refine nameQ ?_;intro _ _;refine eN ?_;intro _ _ _;refine wpAny_Assign_Name ?_ (by k_dflt rfl))
  refine call0 ‹_› ‹_› (g_Facts _) (kp_Facts _) mm8 ?_
  refine mk_facts ‹_› (by lia) (by lia) ?_
  intro F fa cells P1 s1 S1 hs1 hF D0
  with_reducible (refine st_loc ‹_› ‹_› ?_;refine SetQ.i (SetL.there (SetL.hereN)) ?_;intro _ _;refine (by assumption:Nxt _ _ _ _ _ _ _) _ ?_;refine eI ‹_› ?_;intro _ _ _)
  refine For_ ‹_› ?_ (by k_dflt exact fun _=>rfl)
  with_reducible (refine ev_lv ‹_› ‹_› LocV.a0 ?_)
  have hnl1:=hs1 _ hnl
  have hN1:=hN.mono hs1
  refine forL (vals:=[some (.ref nl),some (.ref F),none,none,none,none,none,none]) (St.pad 6 (vs:=[some (.ref nl),some (.ref F)]) ‹_›) gN hnl1 (fun i vals₁ own₁ P₁=>∃ v1 v2 v3 v4 v5 v6 l,vals₁ = [some (.ref nl),some (.ref F),v1,v2,v3,v4,v5,v6]∧Dcs w own₁ l∧(∀ p∈P1,p∈P₁)∧(i = 0→FS fa (fun _=>none) (fun _=>none) (fun _=>0) 0 l)∧(i = 1→∃ bd pr N,FS fa bd pr (fun x=>(setn t).count x) N l))
    (mk7 _ _ _ _ _ _ _ ⟨rfl,by rw [List.append_nil];exact D0,fun _ h=>h,fun _=>(mk11 _ _ _ _ _ _ _ _ _ _ [] ⟨rfl,⟨fun x=>⟨0,fun _=>rfl,fun h=>absurd rfl h⟩,fun x=>⟨0,fun _=>rfl,fun h=>absurd rfl h⟩,fun x=>⟨0,fun _=>rfl,fun h=>absurd rfl h⟩,fun x=>⟨fun _=>rfl,fun h=>absurd rfl h⟩,(by intro x b h;cases h),(by intro x b h;cases h),by decide,(by intro p h;cases h)⟩⟩),fun h=>by cases h⟩) ?_ ?_
  · intro i v vals₁ own₁ P₁ P₁' W s₁ Qb hqb hi hv hx12 S hs
    refine ex7 hx12 ?_;clear hx12;intro v1 v2 v3 v4 v5 v6 l hy14;refine an5 hy14 ?_;clear hy14;intro hx13 D1 hP1 hf0 _
    symm at hx13;subst hx13
    obtain rfl:i = 0:=by simpa using hi
    have hf0:=hf0 rfl
    cases hv
    refine SetQ.i (SetL.a2) ?_
    intro s2 S2
    have hF2:=hF.mono fun p hp=>hs _ (hP1 p hp)
    have hN2:=hN1.mono fun p hp=>hs _ (hP1 p hp)
    have flag:OwnFlag:=⟨trivial⟩
    with_reducible (refine eI ‹_› ?_;intro _ _ _;refine wpAny_Assign_Name ?_ (by k_dflt rfl);refine List_ ?_;refine sp1 ?_ (by k_dflt rfl);refine Tuple_ ?_;refine sp1 ?_ (by k_dflt rfl);refine ev_lv ‹_› ‹_› LocV.a2 ?_;refine sp1 ?_ (by k_dflt rfl);refine ev_glob ‹_› ‹_› (g_TOP _) mm9 ?_;refine sp0 ?_;refine nt ‹_› ?_ sl2;intro _ _ _;refine sp0 ?_;refine nl_flag ‹_› ‹_› ?_ sl1;intro _ _ _;refine st_loc ‹_› ‹_› ?_;refine SetQ.i (SetL.a3) ?_;intro _ _;refine (by assumption:Nxt _ _ _ _ _ _ _) _ ?_;refine eI ‹_› ?_;intro _ _ _)
    clear flag
    rename_i T0 _ _ Wt _ _ _ _ _ _ _
    have hT0sub:∀ p∈P₁',p∈(T0,tupOf [.ref a,.int (-1) 620] 0)::P₁':=fun p hp=>List.mem_cons_of_mem _ hp
    refine cutN gN (fun ns f s'=>f = .next∧∃ v3 v4 v5 v6 cells l bd pr N wv ew P2,(∀ p∈P₁',p∈P2)∧St w c' (asg ns [some (.ref nl),some (.ref F),some (.ref a),some (.ref Wt),v3,v4,v5,v6]) ((Wt,listOf (wv:List Value).toArray ew)::(cells ++ W)) P2 s'∧Dcs w cells l∧FS fa bd pr (fun x=>(setn t).count x) N l) ?_ ?_
    · intro Qm hqm
      refine whileR (fun k s=>∃ ws wv ew v3 v4 v5 v6 cells l bd pr cn N P2,k = sizes (ws.map (·.1))∧(∀ p∈P₁',p∈P2)∧St w c' (asg _ [some (.ref nl),some (.ref F),some (.ref a),some (.ref Wt),v3,v4,v5,v6]) ((Wt,listOf (wv:List Value).toArray ew)::(cells ++ W)) P2 s∧Dcs w cells l∧FS fa bd pr cn N l∧FInv t bd pr cn ws ∧
        All2 (LR w P2) wv ws.reverse∧N + 71 * sizes (ws.map (·.1))≤150000∧(∀ p∈ws,p.1.size≤1990∧p.1.dep≤50)) ?_ (sizes [t]) _
        ⟨[(t,-1)],[.ref T0],0,v3,v4,v5,v6,own₁,l,_,_,_,0,(T0,tupOf [.ref a,.int (-1) 620] 0)::P₁',rfl,hT0sub,by assumption,D1,hf0,
          ⟨fun p hp=>by rw [List.mem_singleton.mp hp];exact ⟨[],hb.sc,fun n h=>nomatch h⟩,by simpa [labss] using hb.ln,fun _ _=>rfl,by simpa [bindss] using hb.bn,fun _ _=>rfl,fun x=>by simp [setns]⟩,
          .cons (mk4 T0 a 620 0 ⟨rfl,.head _,hN2.mono hT0sub⟩) .nil,by have:=hb.sz;simp [sizes];lia,fun p hp=>by rw [List.mem_singleton.mp hp];exact ⟨hb.sz,hb.dp⟩⟩
      clear D1 hf0 S S2
      intro k s3 Qz hqz hx15
      refine ex14 hx15 ?_;clear hx15;intro ws wv ew v3 v4 v5 v6 cells l bd pr cn N P2 hy17;refine an9 hy17 ?_;clear hy17;intro hx16 hP2 S3 D1 hf hinv hwv hpot hbnd
      symm at hx16;subst hx16
      have hwl:=hwv.length
      have hls:=len_sizes (ws.map (·.1))
      rw [List.length_map] at hls
      rw [List.length_reverse] at hwl
      with_reducible (refine wpAny_isTrue_Compare1 ?_ (by k_dflt rfl);refine callB1 ‹_› ‹_› (gn_len _) bt_len bt_ne_len mm10 ?_ (by k_dflt rfl);refine ev_lv ‹_› ‹_› LocV.a3 ?_)
      refine len_O ‹_› (by k_mem) (by lia) ?_
      intro s4 tk4 S4
      with_reducible (refine ev_int ‹_› ?_;intro _ _ _;refine PySem.P.gt_int ?_;refine wpAny_truthy_bool ?_;refine (by assumption:ImpG _ _) _ _ ?_)
      refine ifB (fun hb2=>?_) (fun hb2=>?_)
      rotate_left
      · have hws:ws = []:=List.length_eq_zero_iff.mp (by have:=of_decide_eq_false hb2;lia)
        subst hws
        have hcn:cn = fun x=>(setn t).count x:=by
          funext x
          have:=hinv.ct x
          simpa [setns] using this
        subst hcn
        with_reducible (refine wpAny_execs_nil ?_;refine (by assumption:Imp _ _) _ _ ?_)
        exact ⟨rfl,mk12 _ _ _ _ cells l bd pr N _ _ P2 ⟨hP2,by assumption,D1,hf⟩⟩
      cases ws with
      | nil=>exact absurd (of_decide_eq_true hb2) (by simp [hwl])
      | cons p ws =>
      obtain ⟨t',lab⟩:=p
      rw [List.reverse_cons] at hwv
      refine ex2 (hwv.snoc_inv) ?_;intro wv v hy21;refine an3 hy21 ?_;clear hy21;intro hx18 hwv1 hz20;refine ex4 hz20 ?_;clear hz20;intro T1 b tk1 eT hy22;refine an3 hy22 ?_;clear hy22;intro hx19 hT1 hNb
      symm at hx18;subst hx18
      symm at hx19;subst hx19
      have hbt:=hbnd (t',lab) (.head _)
      rw [List.length_append,List.length_singleton] at hwl
      rw [List.length_cons] at hwl hls
      dsimp only at hT1 hNb hbt
      have hpot':N + 71 * (t'.size + sizes (ws.map (·.1)))≤150000:=hpot
      with_reducible (refine nameQ ?_;intro _ _;refine eN ?_;intro _ _ _)
      refine Assign_Tuple ?_ (by k_dflt rfl) (by k_dflt rfl)
      with_reducible (refine MethodCall_ ?_ (by k_dflt rfl);refine ev_lv ‹_› ‹_› LocV.a3 ?_;refine lmeth ‹_› (by k_mem) PySem.F.slot_list_pop PySem.F.type_list_pop ?_;refine callWith_method0 ?_)
      refine popL ‹_› (fits_le (by rw [List.length_append,List.length_singleton,hwl];lia)) ?_
      intro s5 S5
      refine asgF_pair (a:=.ref b) (b:=.int lab tk1) S5 gN ⟨_,S5.inP hT1,rfl,_,rfl⟩ ?_
      refine SetQ.i (SetL.a4) ?_
      refine SetQ.i (SetL.a5) ?_
      intro s6 S6
      clear S3 S4 S5
      with_reducible (refine (by assumption:Nxt _ _ _ _ _ _ _) _ ?_;refine eI ‹_› ?_;intro _ _ _;refine wpAny_Expr_any ?_ (by k_dflt rfl) (by k_dflt rfl);refine call3 ‹_› ‹_› (g_note_node _) (kp_note_node _) mm11 ?_ (by k_dflt rfl) (by k_dflt rfl) (by k_dflt rfl);refine ev_lv ‹_› ‹_› LocV.a1 ?_;refine ev_lv ‹_› ‹_› LocV.a4 ?_;refine ev_lv ‹_› ‹_› LocV.a5 ?_;refine And.intro (St.kin ‹_›) ?_)
      have S7:=S6.perm (own':=cells ++ ((Wt,listOf wv.toArray (ew + 1))::W)) List.perm_middle.symm
      refine note_node (hF2.mono hP2) hNb hinv.noFix (by lia) D1 S7 hf hinv.meets (by lia) d6 u8 ?_
      intro cells2 l2 P3 s8 D2 hf2 S8 hs8
      have S9:=S8.perm (own':=(Wt,listOf wv.toArray (ew + 1))::(cells2 ++ W)) List.perm_middle
      clear S6 S7 S8 D1 hf
      have hN3:=hNb.mono hs8
      have hwv3:=hwv1.mono fun v p h=>LR.mono _ _ v p hs8 h
      with_reducible (refine (by assumption:Nxt _ _ _ _ _ _ _) _ ?_;refine eI ‹_› ?_;intro _ _ _;refine wpAny_Assign_Name ?_ (by k_dflt rfl))
      refine cutE S9 (fun m' v s'=>∃ tk,v = .int (within lab t') tk∧St w c' m' ((Wt,listOf wv.toArray (ew + 1))::(cells2 ++ W)) P3 s') ?_ ?_
      · with_reducible (refine IfExpN ?_;intro _ _;refine wpAny_isTrue_Compare1 ?_ (by k_dflt rfl);refine Attribute_any_ ?_ (by k_dflt rfl);refine ev_lv ‹_› ‹_› LocV.a4 ?_;refine at_kind ‹_› ‹_› (by k_places) (by first | assumption | exact rfl) ?_;intro _ _ _;refine ev_glob ‹_› ‹_› (g_LAMBDA _) mm12 ?_;refine eq_int ?_;refine wpAny_truthy_bool ?_;refine (by assumption:ImpG _ _) _ _ ?_)
        refine ifB (fun hk=>?_) (fun hk=>?_)
        · refine ex3 (kind7 (eq_of_beq hk)) ?_;intro l7 ps7 b7 hx23
          symm at hx23;subst hx23
          with_reducible (refine Attribute_any_ ?_ (by k_dflt rfl);refine ev_lv ‹_› ‹_› LocV.a4 ?_;refine at_lam_label ‹_› ‹_› (by k_places) ?_;intro _ _ _)
          exact mk1 _ ⟨rfl,by assumption⟩
        · with_reducible (refine ev_lv ‹_› ‹_› LocV.a5 ?_)
          exact mk1 tk1 ⟨by rw [within_other (by simpa using hk)],by assumption⟩
      intro v s10 hx24
      refine ex1 hx24 ?_;clear hx24;intro tkw hy26;refine an2 hy26 ?_;clear hy26;intro hx25 S10
      symm at hx25;subst hx25
      clear S9
      with_reducible (refine st_loc ‹_› ‹_› ?_;refine SetQ.i (SetL.a6) ?_;intro _ _;refine (by assumption:Nxt _ _ _ _ _ _ _) _ ?_;refine eI ‹_› ?_;intro _ _ _)
      refine For_ ‹_› ?_ (by k_dflt exact fun _=>rfl)
      with_reducible (refine Subscript_ ?_;refine MethodCall_ ?_ (by k_dflt rfl);refine ev_lv ‹_› ‹_› LocV.a4 ?_)
      refine parts_m ‹_› hN3 (by k_places) (by lia) d2 u2 ?_
      intro lp pv ep P4 s11 S11 hs11 hlp hpv
      have hpl:=hpv.length
      have hkl:=len_kids t'
      with_reducible (refine wpAny_Slice ?_;refine evalPart_none_step ?_;refine evalPart_none_step ?_;refine evalPart_some_step ?_;refine UnaryOp_ ?_;refine ev_int ‹_› ?_;intro _ _ _;refine negS ‹_› ?_;intro _ _ _)
      refine kba_turn (value':=PySem.Expr.Name (PySem.Str.ofString "_") ⟨0,0,0,0⟩) (fun _=>rfl) ?_
      refine slice_rev ‹_› (St.isListP ‹_› (by k_mem)) (by lia) ?_ (by k_dflt rfl) (by k_dflt exact fun _=>rfl)
      intro Dr s12 S12
      have hrev:=(All2.ofNds' hpv).reverse
      have hwv4:=hwv3.mono fun v p h=>LR.mono _ _ v p (fun p hp=>List.mem_cons_of_mem (Dr,listOf pv.reverse.toArray 0) (hs11 _ hp)) h
      refine forL S12 gN (.head _) (fun i vals₁ own₁ P₁=>∃ wv2 e2 u6,vals₁ = [some (.ref nl),some (.ref F),some (.ref a),some (.ref Wt),some (.ref b),some (.int lab tk1),some (.int (within lab t') tkw),u6]∧own₁ = (Wt,listOf (wv2:List Value).toArray e2)::(cells2 ++ W)∧(∀ p∈P4,p∈P₁)∧All2 (LR w P₁) wv2 (ws.reverse ++ (t'.kids.reverse.take i).map (fun k=>(k,within lab t'))))
        (mk3 _ _ _ ⟨rfl,rfl,fun p hp=>.tail _ hp,by rw [List.take_zero,List.map_nil,List.append_nil];exact hwv4⟩) ?_ ?_
      · intro i v vals₁ own₁ P₁ P₁' W s₁ Qb hqb hi hv hx27 S hs2
        refine ex3 hx27 ?_;clear hx27;intro wv2 e2 u6 hy30;refine an4 hy30 ?_;clear hy30;intro hx28 hx29 hP4 hw2
        symm at hx28;subst hx28
        symm at hx29;subst hx29
        refine ex1 (hrev.get hv) ?_;intro k hy33;refine an2 hy33 ?_;clear hy33;intro hk hz32;refine ex1 hz32 ?_;clear hz32;intro xk hy34;refine an2 hy34 ?_;clear hy34;intro hx31 hNk
        symm at hx31;subst hx31
        have hw2l:=hw2.length
        rw [List.length_reverse] at hi
        refine SetQ.i (SetL.a7) ?_
        intro s13 S13
        with_reducible (refine eI ‹_› ?_;intro _ _ _;refine wpAny_Expr_any ?_ (by k_dflt rfl) (by k_dflt rfl);refine MethodCall_ ?_ (by k_dflt rfl);refine ev_lv ‹_› ‹_› LocV.a3 ?_;refine lmeth ‹_› (by k_mem) PySem.F.slot_list_append PySem.F.type_list_append ?_;refine callWith_method1 ?_ (by k_dflt rfl) (by k_dflt rfl);refine sp1 ?_ (by k_dflt rfl);refine Tuple_ ?_;refine sp1 ?_ (by k_dflt rfl);refine ev_lv ‹_› ‹_› LocV.a7 ?_;refine sp1 ?_ (by k_dflt rfl);refine ev_lv ‹_› ‹_› LocV.a6 ?_;refine sp0 ?_;refine nt ‹_› ?_ sl2;intro _ _ _;refine sp0 ?_)
        rename_i T3 _ _
        refine app ‹_› (fits_le (by rw [hw2l];simp;lia)) ?_
        intro s14 S14
        with_reducible (refine (by assumption:Nxt _ _ _ _ _ _ _) _ ?_;refine wpAny_execs_nil ?_;refine (by assumption:Imp _ _) _ _ ?_)
        refine mk3 _ (_::(cells2 ++ _)) _ ⟨S14,fun p hp=>.tail _ hp,mk3 _ _ _ ⟨rfl,rfl,fun p hp=>.tail _ (hs2 _ (hP4 _ hp)),?_⟩⟩
        rw [List.take_add_one,hk,List.map_append,← List.append_assoc]
        exact (hw2.mono fun v p h=>LR.mono _ _ v p (fun p hp=>.tail _ (hs2 _ hp)) h).snoc (show LR w _ (.ref T3) (k,within lab t') from (mk4 T3 xk tkw 0 ⟨rfl,.head _,hNk.mono fun p hp=>.tail _ (hs2 _ (hP4 _ hp))⟩))
      · intro vals' own' P' s13 S13 hx35
        refine ex3 hx35 ?_;clear hx35;intro wv2 e2 u6 hy38;refine an4 hy38 ?_;clear hy38;intro hx36 hx37 hP4 hw2
        symm at hx36;subst hx36
        symm at hx37;subst hx37
        have hlr:pv.reverse.length = t'.kids.reverse.length:=by rw [List.length_reverse,List.length_reverse,hpl]
        rw [hlr,List.take_length] at hw2
        have hse:=size_eq t'
        have em:(t'.kids.map (fun k=>(k,within lab t')) ++ ws).map (·.1) = t'.kids ++ ws.map (·.1):=by
          rw [List.map_append,List.map_map]
          congr 1
          exact List.map_id t'.kids
        try dsimp only
        with_reducible (refine (by assumption:Nxt _ _ _ _ _ _ _) _ ?_;refine wpAny_execs_nil ?_;refine (by assumption:Imp _ _) _ _ ?_)
        refine mk1 (sizes ((t'.kids.map (fun k=>(k,within lab t')) ++ ws).map (·.1))) ⟨by rw [em,sizes_append];show _ < t'.size + sizes (ws.map (·.1));lia,mk14 (t'.kids.map (fun k=>(k,within lab t')) ++ ws) wv2 e2 _ _ _ _ cells2 l2 _ _ _ _ P' ⟨rfl,fun p hp=>hP4 _ (hs11 _ (hs8 _ (hP2 _ hp))),by assumption,D2,hf2,hinv.step (by lia),?_,?_,?_⟩⟩
        · rw [List.reverse_append,← List.map_reverse];exact hw2
        · rw [em,sizes_append];lia
        · intro p hp
          rcases List.mem_append.mp hp with hp | hp
          · refine ex1 (List.mem_map.mp hp) ?_;intro k hy40;refine an2 hy40 ?_;clear hy40;intro hk hx39
            symm at hx39;subst hx39
            have h1:=size_kid hk
            have h2:=dep_kid hk
            exact ⟨by dsimp only;lia,by dsimp only;lia⟩
          · exact hbnd p (.tail _ hp)
    · intro f s3 hx41
      refine an2 hx41 ?_;clear hx41;intro hx42 hz43;refine ex12 hz43 ?_;clear hz43;intro v3 v4 v5 v6 cells l bd pr N wv ew P2 hy44;refine an4 hy44 ?_;clear hy44;intro hP2 S3 D1 hf
      symm at hx42;subst hx42
      try dsimp only
      with_reducible (refine (by assumption:Nxt _ _ _ _ _ _ _) _ ?_;refine wpAny_execs_nil ?_;refine (by assumption:Imp _ _) _ _ ?_)
      exact mk3 _ cells P2 ⟨S3.drop,hP2,mk7 _ _ _ _ _ _ l ⟨rfl,D1,fun p hp=>hP2 _ (hs _ (hP1 _ hp)),(fun h=>by cases h),fun _=>⟨bd,pr,N,hf⟩⟩⟩
  · intro vals' own' P' s2 S2 hx45
    refine ex7 hx45 ?_;clear hx45;intro v1 v2 v3 v4 v5 v6 l hy47;refine an5 hy47 ?_;clear hy47;intro hx46 D1 hP1 _ hf1
    symm at hx46;subst hx46
    refine ex14 (hf1 rfl) ?_;intro bd pr N kSg kRg kNr kLt kPr kCt kBd kCl kSt kRd inn hy49;refine an2 hy49 ?_;clear hy49;intro hx48 hK
    symm at hx48;subst hx48
    try dsimp only
    with_reducible (refine (by assumption:Nxt _ _ _ _ _ _ _) _ ?_;refine eI ‹_› ?_;intro _ _ _;refine wpAny_Return_some ?_;refine ev_lv ‹_› ‹_› LocV.a1 ?_;refine (by assumption:Abr _ _) _ _ (by k_dflt rfl) ?_;refine (by assumption:Imp _ _) _ _ ?_)
    refine ex1 (D1.at (i:=8) rfl) ?_;intro o hy50;refine an3 hy50 ?_;clear hy50;intro ho hd _
    have e:=set_split (b:=(fa.st,o)) ho
    have S3:=S2
    rw [e.1] at S3
    have S4:=(S3.perm List.perm_middle).settle
    have hF3:=hF.mono fun p hp=>List.mem_cons_of_mem (fa.st,o) (hP1 p hp)
    refine ex11 hF3 ?_;clear hF3;intro dF t0 t1 t2 t3 t4 t5 t6 t7 t8 t9 hy51;refine an2 hy51 ?_;clear hy51;intro hF1 hF2
    exact Ends.of S4 (fun p hp=>.tail _ (hP1 _ (hs1 _ hp))) ⟨F,rfl,dF,_,_,fa.st,o,kSt,hF1,hF2,rfl,.head _,hd,fun x hx=>(hK.st x).2 hx⟩
end
end
section
open PySem.Calls
section
variable {w:World} {c:Cx} {m:Str→Option Value} {own P:Led} {s:Shared} {E Q:Value→Shared→Prop}
theorem comp_evalS {target elt iter:Expr} {ifs:List Expr} {scope:Scope} {cl:List (Str × Addr)} {pos:Pos} {env:Env} (_S:St w c m own P s)
    (hifs:ifs.length≤1) (hclos:closureFor scope env = pure cl) (hcell:∀ y∈scope.names,y.2≠.cell) (hkind:scope.kind = .function) (hnames:∀ y∈scope.names,y.2 = .local→scope.names.lookup y.1 = some .local) (hs:∀ x,foldedSetIterable iter env x = pure x)
    (h:wpAny (model rw_pq1024_01.row.prog w) c.A (eval iter env) (fun xv s₁=>wpAny (model rw_pq1024_01.row.prog w) c.A (pyIter xv) (CompAt w c m target elt ifs scope cl env (fun own' P' ys D=>∀ s',St w c m own' ((D,LCg.lst ys)::P') s'→Q (.ref D) s')) E s₁) E s) :
    wpAny (model rw_pq1024_01.row.prog w) c.A (eval (.ListComp elt [⟨target,iter,ifs,0⟩] scope pos) env) Q E s:=comp_eval hifs hclos hcell hkind hnames hs h
theorem intOfB {b:Bool} (S:St w c m own P s) (h:∀ s' tk,St w c m own P s'→Q (.int (if b then 1 else 0) tk) s'):wpAny (model rw_pq1024_01.row.prog w) c.A (call (.type "int") [.bool b]) Q E s:=call_int_bool (h _ _ (S.tok _))
theorem sumP {l:Addr} {vs:List Value} {e:Nat} {ns:List Int} (S:St w c m own P s) (hl:(l,listOf vs.toArray e)∈P) (hi:IntsAre vs ns) (h:∀ s' tk,St w c m own P s'→Q (.int ns.sum tk) s'):wpAny (model rw_pq1024_01.row.prog w) c.A (call (.builtin "sum") [.ref l]) Q E s :=
  PyProof.Rows.LSm.sum_ints S.F S.N S.hh (S.isListP hl) hi fun h' tk t' F' N'=>h _ _ (S.same F' N' S.ap S.nd)
/-- two told things compared -/
theorem eqDat {u v:Value} {d e:Dat} {P₁ P₂:Led} (n k:Nat) (S:St w c m own P s) (hu:DatIn P₁ u d) (h1:∀ p∈P₁,p∈P) (hv:DatIn P₂ v e) (h2:∀ p∈P₂,p∈P) (hd:kqdOk n d = true) (he:kqdOk k e = true) (hr:c.A.units + n < cLine) (h:∀ b,(b = true ↔ d = e)→Q (.bool b) s) :
    wpAny (model rw_pq1024_01.row.prog w) c.A (compareOp .Eq u v) Q E s:=by
  refine ex1 (kqd_in S.N n (hu.mono fun p hp=>List.mem_append_right own (h1 p hp)) hd) ?_;intro as ra
  refine ex1 (kqd_in S.N k (hv.mono fun p hp=>List.mem_append_right own (h2 p hp)) he) ?_;intro bs rb
  have la:=kqd_lay n d hd
  have lb:=kqd_lay k e he
  refine PySem.SeqAt.compareEq_reads ra rb la.1 lb.1 (Nat.lt_of_le_of_lt (Nat.add_le_add_left (Nat.le_trans (Nat.min_le_left _ _) la.2) _) hr) ?_
  exact h _ (kqd_eqv n d e k hd he)
theorem neDat {u v:Value} {d e:Dat} {P₁ P₂:Led} (n k:Nat) (S:St w c m own P s) (hu:DatIn P₁ u d) (h1:∀ p∈P₁,p∈P) (hv:DatIn P₂ v e) (h2:∀ p∈P₂,p∈P) (hd:kqdOk n d = true) (he:kqdOk k e = true) (hr:c.A.units + n < cLine) (h:∀ b,(b = true ↔ d = e)→Q (.bool (!b)) s) :
    wpAny (model rw_pq1024_01.row.prog w) c.A (compareOp .NotEq u v) Q E s:=by
  refine ex1 (kqd_in S.N n (hu.mono fun p hp=>List.mem_append_right own (h1 p hp)) hd) ?_;intro as ra
  refine ex1 (kqd_in S.N k (hv.mono fun p hp=>List.mem_append_right own (h2 p hp)) he) ?_;intro bs rb
  have la:=kqd_lay n d hd
  have lb:=kqd_lay k e he
  refine PySem.SeqAt.compareNe_reads ra rb la.1 lb.1 (Nat.lt_of_le_of_lt (Nat.add_le_add_left (Nat.le_trans (Nat.min_le_left _ _) la.2) _) hr) ?_
  exact h _ (kqd_eqv n d e k hd he)
end
theorem asg_lc {A B:Str} {kA kB:NameKind} {x:Value} {r:List (Str × NameKind)} (h:goodNs ((A,kA)::(B,kB)::r) = true) :
    (fun z=>if z = A then some x else none) = asg ((A,kA)::(B,kB)::r) [some x,none]:=by
  funext z
  simp only [asg,asg_nil]
  by_cases h1:z = A
  · simp [h1]
  · simp [h1]
theorem tell_in {P:Led} {v:Value} {t:T} (h:DatIn P v t.tell):∃ b e kt vo o eo k ek kv,v = .ref b∧(b,tupOf [.int t.kind kt,.ref o,.ref k] e)∈P∧(o,tupOf vo eo)∈P∧DatAll P vo t.own∧(k,tupOf kv ek)∈P∧DatAll P kv (tells t.kids):=by
  rw [tell_eq] at h
  cases h with
  | tuple hm ha =>
  cases ha with
  | cons h1 ha =>
  cases ha with
  | cons h2 ha =>
  cases ha with
  | cons h3 ha =>
  cases ha
  cases h1
  cases h2 with
  | tuple m2 a2 =>
  cases h3 with
  | tuple m3 a3 =>
  exact mk9 _ _ _ _ _ _ _ _ _ ⟨rfl,hm,m2,a2,m3,a3⟩
theorem dall_len {P:Led}:∀ {vs:List Value} {ds:List Dat},DatAll P vs ds→vs.length = ds.length
  | _,_,.nil=>rfl
  | _,_,.cons _ r=>by rw [List.length_cons,List.length_cons,dall_len r]
theorem dall_get {P:Led}:∀ {vs:List Value} {ds:List Dat} {i:Nat} {v:Value},DatAll P vs ds→vs[i]? = some v→∃ d,ds[i]? = some d∧DatIn P v d
  | _,_,0,_,.cons h _,e=>by cases e;exact ⟨_,rfl,h⟩
  | _,_,i + 1,_,.cons _ r,e=>dall_get (i:=i) r e
theorem tells_get {ts:List T} {i:Nat} {d:Dat} (h:(tells ts)[i]? = some d):∃ t,ts[i]? = some t∧d = t.tell:=by
  rw [tells_map,List.getElem?_map] at h
  cases ht:ts[i]? with
  | none=>rw [ht] at h;cases h
  | some t=>rw [ht] at h;cases h;exact ⟨t,rfl,rfl⟩
theorem own_one {t:T} {n:Int} (h:t.kind = 3):(Dat.tuple t.own = Dat.tuple [.int n]) ↔ t.hereSet = [n]:=by
  cases t <;> first | (simp [T.own,T.hereSet];done) | cases h
theorem hereSet_ne {t:T} (h:¬ t.kind = 3):t.hereSet = []:=by
  cases t <;> first | rfl | exact absurd rfl h
theorem setns_sum (n:Int):∀ l:List T,(((setns l).count n:Nat):Int) = (l.map fun t=>(((setn t).count n:Nat):Int)).sum
  | []=>rfl
  | t::r=>by rw [setns,List.count_append,List.map_cons,List.sum_cons,← setns_sum n r];exact Int.natCast_add _ _
theorem kqd_int (n:Nat) (i:Int):kqdOk n (.int i) = true:=by cases n <;> rfl
theorem kqd_ints (n:Nat) (ns:List Int):(dints ns).all (kqdOk n) = true:=by
  rw [List.all_eq_true]
  intro d hd
  refine ex1 (List.mem_map.mp hd) ?_;intro i hy2;refine an2 hy2 ?_;clear hy2;intro _ hx1
  symm at hx1;subst hx1
  exact kqd_int n i
theorem kqd_tup (n:Nat) (ds:List Dat):kqdOk (n + 1) (.tuple ds) = ds.all (kqdOk n):=rfl
theorem fin8_ok (i:Fin 8):PyData.strOk (Str.ofString (toString (i.val:Int))) = true:=by revert i;decide +kernel
theorem kqd_strF (n:Nat) (i:Fin 8):kqdOk n (.str (Str.ofString (toString (i.val:Int)))) = true:=by cases n <;> exact fin8_ok i
theorem kqd_late (n:Nat):kqdOk n (.str (Str.ofString "late")) = true:=by cases n <;> (show PyData.strOk _ = true;decide +kernel)
theorem kqd_ownL (t:T) (n:Nat):t.own.all (kqdOk (n + 1)) = true:=by
  cases t with
  | cint i=>simp only [T.own,List.all_cons,List.all_nil,kqd_strF,Bool.and_true]
  | cun=>simp only [T.own,List.all_cons,List.all_nil,kqd_late,Bool.and_true]
  | _=>simp only [T.own,List.all_cons,List.all_nil,kqd_int,kqd_tup,kqd_ints,Bool.and_true]
theorem kqd_tell (t:T) (n:Nat) (h:2 * t.dep≤n):kqdOk (n + 2) t.tell = true:=by
  have hd:=dep_eq t
  obtain ⟨n,rfl⟩:∃ k,n = k + 2:=⟨n - 2,by lia⟩
  rw [tell_eq,kqd_tup,List.all_cons,List.all_cons,List.all_cons,List.all_nil,kqd_int,kqd_tup,kqd_ownL t (n + 1),kqd_tup]
  have hk:(tells t.kids).all (kqdOk (n + 2)) = true:=by
    rw [List.all_eq_true,tells_map]
    intro d hm
    refine ex1 (List.mem_map.mp hm) ?_;intro k hy4;refine an2 hy4 ?_;clear hy4;intro hk hx3
    symm at hx3;subst hx3
    have:=dep_kid hk
    exact kqd_tell k n (by lia)
  rw [hk];rfl
termination_by t.size
decreasing_by exact size_kid hk
theorem times1 {w:World} {P:Led} (t:T) (v:Value) (n:Int) (u:Tok) (hv:DatIn P v t.tell) (hz:t.size≤4000) (IH:∀ d∈t.kids,∀ v P u,DatIn P v d.tell→Pure w (2 * d.dep + 4) P (call (.ref 560) [v,.int n u]) fun P' r=>∃ tk,r = .int (((setn d).count n:Nat):Int) tk) :
    Pure w (2 * t.dep + 4) P (call (.ref 560) [v,.int n u]) fun P' r=>∃ tk,r = .int (((setn t).count n:Nat):Int) tk:=by
  intro c m own s Q E S hdp hu ret
  have X:=S.X
  refine ex9 (tell_in hv) ?_;intro b e kt vo o eo k ek kv hy6;refine an6 hy6 ?_;clear hy6;intro hx5 hb ho hvo hk hkv
  symm at hx5;subst hx5
  refine wpAny_call ?_
  refine enterK (K:=hd.heap_39 _) (vals:=[some (.ref b),none]) (clf:=fun L'=>[(Str.ofString "_law_number",L' + 1)]) (Out:=fun cs P' r=>cs = own∧∃ tk,r = .int (((setn t).count n:Nat):Int) tk) rfl S (by k_is) (by k_is) (by lia) (by exact BindsTo.of_eq rfl) (by kernel_rfl) (by decide +kernel) (by kernel_rfl) (by exact fun _=>rfl) ?a4 ?a5 ?a6
  case a4 =>
    intro L'
    dsimp only [List.map,List.zip,List.zipWith]
    rw [bindL_loc (by kernel_rfl),bindL_cell (by kernel_rfl),bindL_nil]
    exact asg_lc (by kernel_rfl)
  case a6 =>
    intro r own' P' s' S' hc hs hx7
    refine an2 hx7 ?_;clear hx7;intro hx8 ho
    symm at hx8;subst hx8
    exact ret r P' s' S' hs ho
  intro c' s' cc gN hd' hu' hcc S'
  refine ex1 (hcc.one) ?_;intro o1 hy10;refine an2 hy10 ?_;clear hy10;intro hx9 hc1
  symm at hx9;subst hx9
  have hN:o1.data = .cell (some (.int n u)):=hc1.trans (by exact rfl)
  clear hc1 hcc ret S
  have e0:t.size≤1000000:=by lia
  have e3:∀ d∈t.kids,c'.A.depth + (2 * d.dep + 4) < recursionLimit:=fun d hd=>by have:=dep_kid hd;lia
  have e4:∀ d∈t.kids,c'.A.units + 8 * (2 * d.dep + 4) < cLine:=fun d hd=>by have:=dep_kid hd;lia
  have e5:c'.A.units + 10 < cLine:=by first | exact bl ‹_› ‹_› (by decide) | lia
  clear hdp hu hd' hu'
  have hkl:kv.length = t.kids.length:=by rw [dall_len hkv,tells_map,List.length_map]
  have hkz:=len_kids t
  dsimp only [List.cons_append,List.nil_append] at S'
  with_reducible (refine nameQ ?_;intro _ _;refine eN ?_;intro _ _ _)
  with_reducible (refine wpAny_Return_some ?_)
  with_reducible (refine wpAny_BinOp ?_)
  with_reducible (refine callT ‹_› ‹_› (gn_int _) bt_int ne_int mm2 ?_ (by k_dflt rfl))
  refine cutN gN (fun ns v s'=>∃ P1,v = .bool (decide (t.hereSet = [n]))∧St w c' (asg ns [some (.ref b),none]) own P1 s'∧(∀ p∈(c'.L + 1,o1)::P,p∈P1)) ?_ ?_
  · intro Qm hqm
    with_reducible (refine BoolOp_and ?_;refine wpAny_Compare1 ?_ (by k_dflt rfl);refine subT ‹_› ‹_› LocV.a0 (by k_mem) (by k_dflt rfl) (by k_dflt rfl) (by k_dflt rfl) (by k_dflt exact fun _=>rfl) ?_;intro _ _;refine ev_glob ‹_› ‹_› (g_SET_LOCAL _) mm3 ?_;refine eq_int ?_;refine wpAny_truthy_bool ?_)
    refine ifB (fun hk3=>?_) (fun hk3=>?_)
    · have hk3':=eq_of_beq hk3
      with_reducible (refine BoolOp_one ?_;refine wpAny_Compare1 ?_ (by k_dflt rfl);refine subT ‹_› ‹_› LocV.a0 (by k_mem) (by k_dflt rfl) (by k_dflt rfl) (by k_dflt rfl) (by k_dflt exact fun _=>rfl) ?_;intro _ _;refine Tuple_ ?_;refine sp1 ?_ (by k_dflt rfl);refine ev_cell ‹_› ‹_› (by k_dflt rfl) (by k_mem) ‹_› mm1 ?_;refine sp0 ?_;refine nt ‹_› ?_ sl1;intro _ _ _)
      refine eqDat (P₂:=_) 3 2 ‹_› (.tuple ho hvo) (by k_places) (.tuple (.head _) (.cons (.int n u) .nil)) (fun _ h=>h) (by rw [kqd_tup];exact kqd_ownL t 1) (by rw [kqd_tup];simp [kqd_int]) (by lia) ?_
      intro bb hbb
      rw [own_one hk3'] at hbb
      have:bb = decide (t.hereSet = [n]):=by
        rw [Bool.eq_iff_iff,hbb];simp
      with_reducible (refine (by assumption:ImpG _ _) _ _ ?_)
      exact mk1 _ ⟨by rw [this],by assumption,fun p hp=>.tail _ hp⟩
    · have hk3':¬ t.kind = 3:=by simpa using hk3
      with_reducible (refine (by assumption:ImpG _ _) _ _ ?_)
      refine mk1 _ ⟨?_,by assumption,fun _ h=>h⟩
      rw [hereSet_ne hk3']
      simp [hk3']
  intro v s1 hx11
  refine ex1 hx11 ?_;clear hx11;intro P1 hy13;refine an3 hy13 ?_;clear hy13;intro hx12 S1 hP1
  symm at hx12;subst hx12
  have hc1:=hP1 _ (.head _)
  have hb1:=hP1 _ (.tail _ hb)
  have hk1:=hP1 _ (.tail _ hk)
  with_reducible (refine intOfB ‹_› ?_;intro _ _ _;refine callB1 ‹_› ‹_› (gn_sum _) bt_sum bt_ne_sum mm4 ?_ (by k_dflt rfl))
  refine comp_evalS ‹_› (by decide) (by k_dflt rfl) (by decide) (by k_dflt rfl) (by decide) (by k_dflt exact fun _=>rfl) ?_
  with_reducible (refine subT ‹_› ‹_› LocV.a0 (by k_mem) (by k_dflt rfl) (by k_dflt rfl) (by k_dflt rfl) (by k_dflt exact fun _=>rfl) ?_;intro _ _)
  refine compT (vs:=kv) ‹_› hk1 (by lia) rfl (by kernel_rfl) (fun i own₁ P₁ ys=>own₁ = own∧(∀ p∈P1,p∈P₁)∧IntsAre ys ((t.kids.take i).map fun t=>(((setn t).count n:Nat):Int))) ⟨rfl,fun _ h=>h,.nil⟩ ?_ ?_
  · intro i own₁ P₁ P₁' tl C oC m₂ ys s₂ E' hi hx14 hG hC htl S hs
    refine an3 hx14 ?_;clear hx14;intro hx15 hP2 hys
    symm at hx15;subst hx15
    obtain ⟨v,hv1⟩:∃ v,kv[i]? = some v:=⟨kv[i],by simp [hi]⟩
    refine ex1 (dall_get hkv hv1) ?_;intro d hy16;refine an2 hy16 ?_;clear hy16;intro hd hvd
    refine ex1 (tells_get hd) ?_;intro kt hy18;refine an2 hy18 ?_;clear hy18;intro hkt hx17
    symm at hx17;subst hx17
    rw [hv1] at hG
    have to2:∀ p∈P,p∈P₁':=fun p hp=>hs _ (hP2 _ (hP1 _ (.tail _ hp)))
    show wpAny _ _ _ _ _ _
    refine ccall2 (x:=Str.ofString "_law_times_set") S (g_law_times_set _) (kp_law_times_set _) ?_ rfl rfl (by kernel_rfl) (by k_dflt rfl) (by k_dflt rfl)
    refine cv_loc S (List.mem_append_right _ htl) hC hG ?_ rfl (by kernel_rfl)
    refine cv_cell S (by k_dflt rfl) (hs _ (hP2 _ hc1)) hN ?_ rfl (by kernel_rfl)
    refine ⟨S.kin,?_⟩
    refine useP (IH kt (List.mem_of_getElem? hkt) v _ u (hvd.mono to2)) S (e3 _ (List.mem_of_getElem? hkt)) (e4 _ (List.mem_of_getElem? hkt)) ?_
    intro r P3 s3 S3 hs3 hx19
    refine ex1 hx19 ?_;clear hx19;intro tk hx20
    symm at hx20;subst hx20
    refine mk2 _ P3 ⟨S3,hs3,rfl,fun p hp=>hs3 _ (hs _ (hP2 _ hp)),?_⟩
    rw [List.take_add_one,hkt,List.map_append]
    exact hys.append (.cons _ _ .nil)
  intro own' P2 ys D hx21 s2 S2
  refine an3 hx21 ?_;clear hx21;intro hx22 hP2 hys
  symm at hx22;subst hx22
  rw [hkl,List.take_length] at hys
  refine sumP ‹_› (.head _) hys ?_
  intro s3 tk3 S3
  with_reducible (refine addS ‹_› ?_;intro _ _ _;refine (by assumption:Abr _ _) _ _ (by k_dflt rfl) ?_;refine (by assumption:Imp _ _) _ _ ?_)
  have hval:(if decide (t.hereSet = [n]) = true then (1:Int) else 0) + (t.kids.map fun t=>(((setn t).count n:Nat):Int)).sum = (((setn t).count n:Nat):Int):=by
    rw [setn_eq t,List.count_append,Int.natCast_add,← setns_sum]
    congr 1
    by_cases h3:t.kind = 3
    · have h4:∃ m,t.hereSet = [m]:=by cases t <;> first | exact ⟨_,rfl⟩ | cases h3
      refine ex1 h4 ?_;clear h4;intro m0 h4
      rw [h4]
      by_cases hm:m0 = n
      · subst hm;simp
      · have:¬ [m0] = [n]:=by simpa using hm
        rw [decide_eq_false this,List.count_eq_zero_of_not_mem (by simpa using fun e=>hm e.symm)];rfl
    · rw [hereSet_ne h3];rfl
  exact mk4 _ _ [] _ ⟨by rw [List.append_nil];assumption,fun p hp=>.tail _ (hP2 _ (hP1 _ (.tail _ hp))),rfl,rfl,mk1 _ (congrArg (fun z=>Value.int z _) hval)⟩
theorem times_set {w:World} {P:Led} (t:T) (v:Value) (n:Int) (u:Tok) (hv:DatIn P v t.tell) (hz:t.size≤4000):Pure w (2 * t.dep + 4) P (call (.ref 560) [v,.int n u]) fun P' r=>∃ tk,r = .int (((setn t).count n:Nat):Int) tk :=
  times1 t v n u hv hz fun d hd v P u h=>times_set d v n u h (by have:=size_kid hd;lia)
termination_by t.size
decreasing_by exact size_kid hd
end
section
open PySem.Calls
namespace Zt
variable {prog:Program} {w:World} {A:Around} {s:Shared}
open Builtin.SmallTypes in
theorem next_item {E:Value→Shared→Prop} {it t:Addr} {i:Nat} {items:Array Value} {x:Value} {Q:Value→Shared→Prop} (hit:s.heap.IsTupleIter it t i) (ht:s.heap.IsTuple t items) (hx:items[i]? = some x)
    (hQ:∀ h',h'.IsTupleIter it t (i + 1)→Heap.SameBut it s.heap h'→Q x { s with heap:=h' }):wpAny (model prog w) A (nextOf (.ref it)) Q E s:=by
  refine ex1 (id hit) ?_;intro o hy1;refine an3 hy1 ?_;clear hy1;intro ho hc hd
  refine ex1 ht ?_;clear ht;intro ol hy3;refine an3 hy3 ?_;clear hy3;intro hol _ hz2;refine ex1 hz2 ?_;clear hz2;intro nl hdl
  unfold nextOf
  refine wpAny_bind (wpAny_callSpecial?_slot (name:=Str.ofString "__next__") hit.typeIs F.slot_tuple_iterator_next (wpAny_call_entry F.slot_tuple_iterator_next hit.typeIs F.entry_tuple_iterator_next ?_ (F.args_tuple_iterator_next_1 _)))
  show wpAny _ _ (field (.ref it) 0 >>= _) _ _ s
  refine wpAny_bind (wpAny_field ho hd (x:=.ref t) rfl ?_)
  show wpAny _ _ (if (Value.ref t == Value.none) = true then _ else _) _ _ s
  rw [if_neg (show ¬ ((Value.ref t == Value.none) = true) from Bool.false_ne_true)]
  show wpAny _ _ (field (.ref it) 1 >>= _) _ _ s
  refine wpAny_bind (wpAny_field ho hd (x:=.int i 0) rfl ?_)
  show wpAny _ _ (seqItems? (.ref t) >>= _) _ _ s
  refine wpAny_bind (wpAny_seqItems hol hdl ?_)
  simp only [Int.toNat_natCast,hx]
  refine wpAny_bind (wpAny_setField ho hd (by simp) (wpAny_pure ⟨x,rfl,wpAny_pure (hQ _ ?_ (Heap.SameBut.update ..))⟩))
  exact mk1 _ ⟨Heap.get?_update_self _ ho (Obj.isFreed_of_fields (Obj.data_mapFields hd _)),(Obj.cls_mapFields ..).trans hc,by rw [Obj.data_mapFields hd];simp [rawInt]⟩
open Builtin.SmallTypes in
theorem next_end {E:Value→Shared→Prop} {it t:Addr} {i:Nat} {items:Array Value} {Q:Value→Shared→Prop} (hh:A.handled = none) (hit:s.heap.IsTupleIter it t i) (ht:s.heap.IsTuple t items) (hx:items[i]? = none)
    (hE:∀ h' e,Heap.ExtBut it s.heap h'→(∃ o,h'.get? e = some o∧o.cls = .type "StopIteration")→E (.ref e) { s with heap:=h' }):wpAny (model prog w) A (nextOf (.ref it)) Q E s:=by
  refine ex1 (id hit) ?_;intro o hy4;refine an3 hy4 ?_;clear hy4;intro ho hc hd
  refine ex1 ht ?_;clear ht;intro ol hy6;refine an3 hy6 ?_;clear hy6;intro hol _ hz5;refine ex1 hz5 ?_;clear hz5;intro nl hdl
  unfold nextOf
  refine wpAny_bind (wpAny_callSpecial?_slot (name:=Str.ofString "__next__") hit.typeIs F.slot_tuple_iterator_next (wpAny_call_entry F.slot_tuple_iterator_next hit.typeIs F.entry_tuple_iterator_next ?_ (F.args_tuple_iterator_next_1 _)))
  show wpAny _ _ (field (.ref it) 0 >>= _) _ _ s
  refine wpAny_bind (wpAny_field ho hd (x:=.ref t) rfl ?_)
  show wpAny _ _ (if (Value.ref t == Value.none) = true then _ else _) _ _ s
  rw [if_neg (show ¬ ((Value.ref t == Value.none) = true) from Bool.false_ne_true)]
  show wpAny _ _ (field (.ref it) 1 >>= _) _ _ s
  refine wpAny_bind (wpAny_field ho hd (x:=.int i 0) rfl ?_)
  show wpAny _ _ (seqItems? (.ref t) >>= _) _ _ s
  refine wpAny_bind (wpAny_seqItems hol hdl ?_)
  simp only [Int.toNat_natCast,hx]
  refine wpAny_bind (wpAny_rule (wpAny_bind (wpAny_setField ho hd (by simp) ?_)))
  show wpAny _ _ (newExc (.type "StopIteration") [] >>= _) _ _ _
  refine wpAny_bind ?_
  simp only [newExc,newTuple]
  refine wpAny_bind (wpAny_newObj_type ?_ (by size_fits))
  refine wpAny_bind (m:=firstArgMember _ _) (wpAny_of_eq (a:=Value.none) (by first | rfl | (simp only [firstArgMember];rfl)) ?_)
  refine wpAny_newObj_type ?_ (by size_fits)
  simp only [raiseNew]
  refine wpAny_bind (wpAny_handled ?_)
  first | rw [show A.in1.handled = none from hh] | rw [hh]
  refine wpAny_bind (wpAny_pure (wpAny_throw ?_))
  exact hE _ _ (((Heap.SameBut.update ..).extBut.push _).push _) ⟨_,Heap.get?_push_size _ rfl,rfl⟩
/-- where the zip's two iterators stand -/
structure At (h:Heap) (i1 i2 l1 l2:Addr) (xs ys:Array Value) (k1 k2:Nat):Prop where
  a:h.IsTupleIter i1 l1 k1
  b:h.IsTupleIter i2 l2 k2
  la:h.IsTuple l1 xs
  lb:h.IsTuple l2 ys
theorem At.keep {h h':Heap} {i1 i2 l1 l2:Addr} {xs ys:Array Value} {k1 k2:Nat} (x:At h i1 i2 l1 l2 xs ys k1 k2) {d:Addr} (hs:Heap.ExtBut d h h') (h1:i1≠d) (h2:i2≠d) (h3:l1≠d) (h4:l2≠d):At h' i1 i2 l1 l2 xs ys k1 k2 :=
  ⟨x.a.at fun o e=>hs _ o h1 e,x.b.at fun o e=>hs _ o h2 e,x.la.at fun o e=>hs _ o h3 e,x.lb.at fun o e=>hs _ o h4 e⟩
theorem item {z TI TO i1 i2 l1 l2:Addr} {k1 k2:Nat} {xs ys:Array Value} {x y a b:Value} {Q:Option Value→Shared→Prop} {E:Value→Shared→Prop} (D:ZipApart z TI TO i1 i2 l1 l2)
    (hz:IsZip s.heap z TI TO .none) (hTI:IsPair s.heap TI (.ref i1) (.ref i2)) (hTO:IsPair s.heap TO a b) (hat:At s.heap i1 i2 l1 l2 xs ys k1 k2) (hx:xs[k1]? = some x) (hy:ys[k2]? = some y)
    (hQ:∀ h',IsZip h' z TI TO (rawInt s.heap.objs.size)→IsPair h' TO x y→At h' i1 i2 l1 l2 xs ys (k1 + 1) (k2 + 1)→IsPair h' s.heap.objs.size x y →
      (∀ c o,c≠z→c≠TO→c≠i1→c≠i2→s.heap.get? c = some o→h'.get? c = some o)→Q (some (.ref s.heap.objs.size)) { s with heap:=h' }):wpAny (model prog w) A (pyNext (.ref z)) Q E s:=by
  have hT:s.TypeIs (.ref z) "zip":=⟨_,hz,rfl⟩
  unfold pyNext
  refine wpAny_bind (wpAny_attempt (wpAny_callSpecial?_slot (name:=Str.ofString "__next__") hT F.slot_zip_next (wpAny_call_entry F.slot_zip_next hT F.entry_zip_next (wpAny_mono (Q:=fun fin s'=>∃ v,fin = .done (.ret v)∧(v = .ref s.heap.objs.size∧Q (some v) s')) ?_ (fun fin s' ⟨v,e,e2,hq⟩=>⟨v,e,wpAny_pure hq⟩) fun _ _ e=>e) (F.args_zip_next_1 _))))
  show wpAny _ _ (field (.ref z) 2 >>= _) _ _ _
  refine wpAny_bind (wpAny_field hz rfl (x:=.bool false) rfl ?_)
  show wpAny _ _ (field (.ref z) 3 >>= _) _ _ _
  refine wpAny_bind (wpAny_field hz rfl (x:=.ref TI) rfl ?_)
  refine wpAny_bind (wpAny_seqItems hTI rfl ?_)
  show wpAny _ _ (Builtin.SmallTypes.ownedTupleIsFree (.ref z) >>= _) _ _ _
  refine wpAny_bind ?_
  unfold Builtin.SmallTypes.ownedTupleIsFree
  refine wpAny_bind (wpAny_field hz rfl (x:=.none) rfl (wpAny_pure ?_))
  simp only [if_true]
  refine wpAny_bind (wpAny_rule ?_)
  refine wpAny_bind (wpAny_field hz rfl (x:=.ref TO) rfl ?_)
  refine wpAny_bind (wpAny_setField_rec hz (by simp) fun g1 hz1 hs1=>?_)
  replace hz1:IsZip g1 z TI TO .ellipsis:=hz1
  have at1:=hat.keep hs1.extBut D.i1z D.i2z D.l1z D.l2z
  refine wpAny_bind ?_
  simp only [List.zipIdx_cons,List.zipIdx_nil,List.forIn_cons,List.forIn_nil]
  refine wpAny_bind (wpAny_bind (wpAny_onRaise ?_))
  show wpAny _ _ (Builtin.SmallTypes.nextOf (.ref i1) >>= _) _ _ _
  refine wpAny_bind (next_item at1.a at1.la hx fun g2 i2' hs2=>wpAny_pure ?_)
  have at2:At g2 i1 i2 l1 l2 xs ys (k1 + 1) k2:=⟨i2',at1.b.at fun o e=>hs2.extBut _ o D.i12.symm e,at1.la.at fun o e=>hs2.extBut _ o D.l1i1 e,at1.lb.at fun o e=>hs2.extBut _ o D.l2i1 e⟩
  have hTO2:IsPair g2 TO a b:=hs2.extBut _ _ D.TOi1 (hs1.extBut _ _ D.TOz hTO)
  refine wpAny_bind (wpAny_seqItems hTO2 rfl ?_)
  refine wpAny_bind (wpAny_updateSeq_pair hTO2 fun g3 hTO3 hs3=>?_)
  replace hTO3:IsPair g3 TO x b:=hTO3
  have at3:=at2.keep hs3.extBut D.TOi1.symm D.TOi2.symm D.l1TO D.l2TO
  refine wpAny_bind (wpAny_letGo (wpAny_pure ?_))
  refine wpAny_bind (wpAny_bind (wpAny_onRaise ?_))
  show wpAny _ _ (Builtin.SmallTypes.nextOf (.ref i2) >>= _) _ _ _
  refine wpAny_bind (next_item at3.b at3.lb hy fun g4 i4' hs4=>wpAny_pure ?_)
  have at4:At g4 i1 i2 l1 l2 xs ys (k1 + 1) (k2 + 1):=⟨at3.a.at fun o e=>hs4.extBut _ o D.i12 e,i4',at3.la.at fun o e=>hs4.extBut _ o D.l1i2 e,at3.lb.at fun o e=>hs4.extBut _ o D.l2i2 e⟩
  have hTO4:IsPair g4 TO x b:=hs4.extBut _ _ D.TOi2 hTO3
  refine wpAny_bind (wpAny_seqItems hTO4 rfl ?_)
  refine wpAny_bind (wpAny_updateSeq_pair hTO4 fun g5 hTO5 hs5=>?_)
  replace hTO5:IsPair g5 TO x y:=hTO5
  have at5:=at4.keep hs5.extBut D.TOi1.symm D.TOi2.symm D.l1TO D.l2TO
  refine wpAny_bind (wpAny_letGo (wpAny_pure (wpAny_pure ?_)))
  refine wpAny_bind (wpAny_seqItems hTO5 rfl ?_)
  refine wpAny_bind (wpAny_newTuple ?_)
  have hsz:g5.objs.size = s.heap.objs.size:=by rw [hs5.1,hs4.1,hs3.1,hs2.1,hs1.1]
  have hz5:IsZip g5 z TI TO .ellipsis:=hs5.extBut _ _ D.TOz.symm (hs4.extBut _ _ D.i2z.symm (hs3.extBut _ _ D.TOz.symm (hs2.extBut _ _ D.i1z.symm hz1)))
  have hzlt:z < g5.objs.size:=Heap.lt_size hz5
  show wpAny _ _ (Builtin.SmallTypes.ownedTupleHandOut (.ref z) (.ref g5.objs.size) >>= _) _ _ _
  refine wpAny_bind ?_
  unfold Builtin.SmallTypes.ownedTupleHandOut
  have hz6:IsZip (g5.push { cls:=.type "tuple",data:=.seq #[x,y] }) z TI TO .ellipsis:=Heap.get?_push_of_some _ hz5
  refine wpAny_bind (wpAny_setField_rec hz6 (by simp) fun g7 hz7 hs7=>?_)
  replace hz7:IsZip g7 z TI TO (rawInt g5.objs.size):=hz7
  refine wpAny_setField_rec hz7 (by simp) fun g8 hz8 hs8=>?_
  replace hz8:IsZip g8 z TI TO (rawInt g5.objs.size):=hz8
  have up:∀ c o,c≠z→g5.get? c = some o→g8.get? c = some o:=fun c o c1 e=>hs8.extBut _ _ c1 (hs7.extBut _ _ c1 (Heap.get?_push_of_some _ e))
  have hT8:IsPair g8 g5.objs.size x y:=hs8.extBut _ _ (Nat.ne_of_gt hzlt) (hs7.extBut _ _ (Nat.ne_of_gt hzlt) (Heap.get?_push_size _ rfl))
  rw [hsz] at hz8 hT8
  refine wpAny_pure ⟨_,rfl,by show Value.ref g5.objs.size = _;rw [hsz],?_⟩
  show Q (some (.ref g5.objs.size)) _
  rw [hsz]
  exact hQ g8 hz8 (up _ _ D.TOz hTO5) (at5.keep (d:=z) (fun c o hc e=>up c o hc e) D.i1z D.i2z D.l1z D.l2z) hT8 fun c o c1 c2 c3 c4 e =>
    up c o c1 (hs5.extBut _ _ c2 (hs4.extBut _ _ c4 (hs3.extBut _ _ c2 (hs2.extBut _ _ c3 (hs1.extBut _ _ c1 e)))))
theorem fin {z TI TO i1 i2 l1 l2:Addr} {k1 k2:Nat} {xs ys:Array Value} {a b:Value} {Q:Option Value→Shared→Prop} {E:Value→Shared→Prop} (hh:A.handled = none) (D:ZipApart z TI TO i1 i2 l1 l2)
    (hz:IsZip s.heap z TI TO .none) (hTI:IsPair s.heap TI (.ref i1) (.ref i2)) (hTO:IsPair s.heap TO a b) (hat:At s.heap i1 i2 l1 l2 xs ys k1 k2) (hend:xs[k1]? = none∨ys[k2]? = none)
    (hQ:∀ h',(∀ c o,c≠z→c≠TO→c≠i1→c≠i2→s.heap.get? c = some o→h'.get? c = some o)→Q none { s with heap:=h' }):wpAny (model prog w) A (pyNext (.ref z)) Q E s:=by
  have hT:s.TypeIs (.ref z) "zip":=⟨_,hz,rfl⟩
  unfold pyNext
  have stop:∀ h' e,(∀ c o,c≠z→c≠TO→c≠i1→c≠i2→s.heap.get? c = some o→h'.get? c = some o)→(∃ o,h'.get? e = some o∧o.cls = .type "StopIteration") →
      wpAny (model prog w) A (do if ← isInstance (.ref e) (.type "StopIteration") then pure none else throw (.ref e)) Q E { s with heap:=h' }:=fun h' e hk ⟨o,ho,hc⟩ =>
    wpAny_bind (wpAny_isInstance (T := "StopIteration") (b:=true) ⟨o,ho,hc⟩ isSubtype_stop (wpAny_pure (hQ _ hk)))
  refine wpAny_bind (wpAny_attempt (wpAny_callSpecial?_slot (name:=Str.ofString "__next__") hT F.slot_zip_next (wpAny_call_entry F.slot_zip_next hT F.entry_zip_next ?_ (F.args_zip_next_1 _))))
  show wpAny _ _ (field (.ref z) 2 >>= _) _ _ _
  refine wpAny_bind (wpAny_field hz rfl (x:=.bool false) rfl ?_)
  show wpAny _ _ (field (.ref z) 3 >>= _) _ _ _
  refine wpAny_bind (wpAny_field hz rfl (x:=.ref TI) rfl ?_)
  refine wpAny_bind (wpAny_seqItems hTI rfl ?_)
  show wpAny _ _ (Builtin.SmallTypes.ownedTupleIsFree (.ref z) >>= _) _ _ _
  refine wpAny_bind ?_
  unfold Builtin.SmallTypes.ownedTupleIsFree
  refine wpAny_bind (wpAny_field hz rfl (x:=.none) rfl (wpAny_pure ?_))
  simp only [if_true]
  refine wpAny_bind (wpAny_rule ?_)
  refine wpAny_bind (wpAny_field hz rfl (x:=.ref TO) rfl ?_)
  refine wpAny_bind (wpAny_setField_rec hz (by simp) fun g1 hz1 hs1=>?_)
  replace hz1:IsZip g1 z TI TO .ellipsis:=hz1
  have at1:=hat.keep hs1.extBut D.i1z D.i2z D.l1z D.l2z
  refine wpAny_bind ?_
  simp only [List.zipIdx_cons,List.zipIdx_nil,List.forIn_cons,List.forIn_nil]
  refine wpAny_bind (wpAny_bind (wpAny_onRaise ?_))
  show wpAny _ _ (Builtin.SmallTypes.nextOf (.ref i1) >>= _) _ _ _
  cases hx:xs[k1]? with
  | none =>
    refine wpAny_bind (next_end hh at1.a at1.la hx fun g2 e hs2 ⟨oe,hoe,hce⟩=>?_)
    have hz2:IsZip g2 z TI TO .ellipsis:=hs2 _ _ D.i1z.symm hz1
    have hez:e≠z:=fun x=>by subst x;rw [hz2] at hoe;cases hoe;simp at hce
    exact wpAny_setField_rec hz2 (by simp) fun g3 _ hs3=>stop g3 e (fun c o c1 _ c3 _ x=>hs3.extBut _ _ c1 (hs2 _ _ c3 (hs1.extBut _ _ c1 x))) ⟨oe,hs3.extBut _ _ hez hoe,hce⟩
  | some x =>
    have hy:ys[k2]? = none:=by rcases hend with h | h;rw [hx] at h;cases h;exact h
    refine wpAny_bind (next_item at1.a at1.la hx fun g2 i2' hs2=>wpAny_pure ?_)
    have at2:At g2 i1 i2 l1 l2 xs ys (k1 + 1) k2:=⟨i2',at1.b.at fun o e=>hs2.extBut _ o D.i12.symm e,at1.la.at fun o e=>hs2.extBut _ o D.l1i1 e,at1.lb.at fun o e=>hs2.extBut _ o D.l2i1 e⟩
    have hTO2:IsPair g2 TO a b:=hs2.extBut _ _ D.TOi1 (hs1.extBut _ _ D.TOz hTO)
    refine wpAny_bind (wpAny_seqItems hTO2 rfl ?_)
    refine wpAny_bind (wpAny_updateSeq_pair hTO2 fun g3 hTO3 hs3=>?_)
    have at3:=at2.keep hs3.extBut D.TOi1.symm D.TOi2.symm D.l1TO D.l2TO
    refine wpAny_bind (wpAny_letGo (wpAny_pure ?_))
    refine wpAny_bind (wpAny_bind (wpAny_onRaise ?_))
    show wpAny _ _ (Builtin.SmallTypes.nextOf (.ref i2) >>= _) _ _ _
    refine wpAny_bind (next_end hh at3.b at3.lb hy fun g4 e hs4 ⟨oe,hoe,hce⟩=>?_)
    have hz4:IsZip g4 z TI TO .ellipsis:=hs4 _ _ D.i2z.symm (hs3.extBut _ _ D.TOz.symm (hs2.extBut _ _ D.i1z.symm hz1))
    have hez:e≠z:=fun x=>by subst x;rw [hz4] at hoe;cases hoe;simp at hce
    exact wpAny_setField_rec hz4 (by simp) fun g5 _ hs5=>stop g5 e (fun c o c1 c2 c3 c4 x=>hs5.extBut _ _ c1 (hs4 _ _ c4 (hs3.extBut _ _ c2 (hs2.extBut _ _ c3 (hs1.extBut _ _ c1 x))))) ⟨oe,hs5.extBut _ _ hez hoe,hce⟩
noncomputable abbrev P1 (h:Heap) (l1:Addr):Heap:=h.push { cls:=.type "tuple_iterator",data:=.fields #[.ref l1,.int 0 0] }
noncomputable abbrev P2 (h:Heap) (l1 l2:Addr):Heap:=(P1 h l1).push { cls:=.type "tuple_iterator",data:=.fields #[.ref l2,.int 0 0] }
noncomputable abbrev P3 (h:Heap) (l1 l2:Addr):Heap:=(P2 h l1 l2).push { cls:=.type "tuple",data:=.seq #[.ref h.objs.size,.ref (P1 h l1).objs.size] }
noncomputable abbrev P4 (h:Heap) (l1 l2:Addr):Heap:=(P3 h l1 l2).push { cls:=.type "tuple",data:=.seq #[.none,.none] }
noncomputable abbrev P5 (h:Heap) (l1 l2:Addr):Heap:=(P4 h l1 l2).push { cls:=.type "zip",data:=.fields #[.none,.bool false,.bool false,.ref (P2 h l1 l2).objs.size,.ref (P3 h l1 l2).objs.size] }
theorem made (l1 l2:Addr) (xs ys:Array Value) :
    Meets (Builtin.«zip.__new__» ⟨[.type "zip",.ref l1,.ref l2],[]⟩) (fun _ R s=>s.heap.IsTuple l1 xs∧s.heap.IsTuple l2 ys∧R (.ok (.ret (.ref (P4 s.heap l1 l2).objs.size))) { s with heap:=P5 s.heap l1 l2 }) :=
  .of_wp fun prog w A R s h=>by
    obtain ⟨hp,g,d,tk,os⟩:=s
    refine an3 h ?_;clear h;intro hl1 hl2 h
    have hsub:=sub_zip
    have hL1:Heap.IsTuple (Shared.heap ⟨hp,g,d,tk,os⟩) l1 xs:=hl1
    have hL2:Heap.IsTuple (Shared.heap ⟨hp.push { cls:=.type "tuple_iterator",data:=.fields #[.ref l1,.int 0 0] },g,d,tk,os⟩) l2 ys:=hl2.at fun o e=>Heap.get?_push_of_some _ e
    wp_walk using wpAny_pyIter_tuple hL1,wpAny_pyIter_tuple hL2
    exact mk1 _ ⟨rfl,h⟩
theorem call2 {E:Value→Shared→Prop} {l1 l2:Addr} {xs ys:Array Value} {Q:Value→Shared→Prop} (hl1:s.heap.IsTuple l1 xs) (hl2:s.heap.IsTuple l2 ys)
    (h:∀ h',IsZip h' (s.heap.objs.size + 4) (s.heap.objs.size + 2) (s.heap.objs.size + 3) .none→IsPair h' (s.heap.objs.size + 2) (.ref s.heap.objs.size) (.ref (s.heap.objs.size + 1))→IsPair h' (s.heap.objs.size + 3) .none .none →
      At h' s.heap.objs.size (s.heap.objs.size + 1) l1 l2 xs ys 0 0→h'.objs.size = s.heap.objs.size + 5→(∀ c o,s.heap.get? c = some o→h'.get? c = some o)→Q (.ref (s.heap.objs.size + 4)) { s with heap:=h' }) :
    wpAny (model prog w) A (call (.type "zip") [.ref l1,.ref l2]) Q E s:=by
  refine callType_new F.called_zip (by decide) (F.typeCall_zip_2 _ _) (F.newCall_zip_2 _ _) (fun obj=>F.args_object_init_3 obj _ _) F.entry_zip_new (made l1 l2 xs ys) ⟨hl1,hl2,?_⟩
  have z1:(P1 s.heap l1).objs.size = s.heap.objs.size + 1:=Heap.size_push ..
  have z2:(P2 s.heap l1 l2).objs.size = s.heap.objs.size + 2:=by rw [Heap.size_push,z1]
  have z3:(P3 s.heap l1 l2).objs.size = s.heap.objs.size + 3:=by rw [Heap.size_push,z2]
  have z4:(P4 s.heap l1 l2).objs.size = s.heap.objs.size + 4:=by rw [Heap.size_push,z3]
  have z5:(P5 s.heap l1 l2).objs.size = s.heap.objs.size + 5:=by rw [Heap.size_push,z4]
  have g5:(P5 s.heap l1 l2).get? (P4 s.heap l1 l2).objs.size = some _:=Heap.get?_push_size _ rfl
  have g4:(P5 s.heap l1 l2).get? (P3 s.heap l1 l2).objs.size = some _:=Heap.get?_push_of_some _ (Heap.get?_push_size _ rfl)
  have g3:(P5 s.heap l1 l2).get? (P2 s.heap l1 l2).objs.size = some _:=Heap.get?_push_of_some _ (Heap.get?_push_of_some _ (Heap.get?_push_size _ rfl))
  have g2:(P5 s.heap l1 l2).get? (P1 s.heap l1).objs.size = some _:=Heap.get?_push_of_some _ (Heap.get?_push_of_some _ (Heap.get?_push_of_some _ (Heap.get?_push_size _ rfl)))
  have g1:(P5 s.heap l1 l2).get? s.heap.objs.size = some _:=Heap.get?_push_of_some _ (Heap.get?_push_of_some _ (Heap.get?_push_of_some _ (Heap.get?_push_of_some _ (Heap.get?_push_size _ rfl))))
  have up:∀ c o,s.heap.get? c = some o→(P5 s.heap l1 l2).get? c = some o:=fun c o x=>Heap.get?_push_of_some _ (Heap.get?_push_of_some _ (Heap.get?_push_of_some _ (Heap.get?_push_of_some _ (Heap.get?_push_of_some _ x))))
  show _∧_
  rw [z2,z3,z4] at g5
  rw [z1,z2] at g3
  rw [z3] at g4
  rw [z1] at g2
  rw [z4]
  exact ⟨⟨_,g5,rfl⟩,h _ g5 g3 g4 ⟨⟨_,g1,rfl,rfl⟩,⟨_,g2,rfl,rfl⟩,hl1.at fun o e=>up _ o e,hl2.at fun o e=>up _ o e⟩ z5 up⟩
theorem At.lt1 {h:Heap} {i1 i2 l1 l2:Addr} {xs ys:Array Value} {k1 k2:Nat} (x:At h i1 i2 l1 l2 xs ys k1 k2):i1 < h.objs.size∧i2 < h.objs.size:=by
  refine ex1 (x.a) ?_;intro _ hy7;refine an2 hy7 ?_;clear hy7;intro e _
  refine ex1 (x.b) ?_;intro _ hy8;refine an2 hy8 ?_;clear hy8;intro e2 _
  exact ⟨Heap.lt_size e,Heap.lt_size e2⟩
theorem walks (hh:A.handled = none) (z TI TO i1 i2 l1 l2:Addr) (D:ZipApart z TI TO i1 i2 l1 l2) (xs ys:Array Value) :
    WalksT prog w A z [z,TI,TO,i1,i2,l1,l2] [z,TO,i1,i2] (min xs.size ys.size) (fun i vals=>∃ x y,xs[i]? = some x∧ys[i]? = some y∧vals = #[x,y])
      (fun i h=>IsZip h z TI TO .none∧IsPair h TI (.ref i1) (.ref i2)∧(∃ a b,IsPair h TO a b)∧At h i1 i2 l1 l2 xs ys i i)
      (fun i T h=>IsZip h z TI TO (rawInt T)∧IsPair h TI (.ref i1) (.ref i2)∧(∃ a b,IsPair h TO a b)∧At h i1 i2 l1 l2 xs ys (i + 1) (i + 1)∧T≠z∧T≠TO∧T≠i1∧T≠i2) where
  sub:=fun c hc=>by simp at hc ⊢;rcases hc with rfl | rfl | rfl | rfl <;> simp
  frame:=fun i h h' hst hk=>by
    refine an4 hst ?_;clear hst;intro hz hTI hx9 x
    refine ex2 hx9 ?_;clear hx9;intro a b hTO
    exact ⟨hk z (by simp) _ hz,hk TI (by simp) _ hTI,⟨a,b,hk TO (by simp) _ hTO⟩,x.a.at fun o e=>hk i1 (by simp) o e,x.b.at fun o e=>hk i2 (by simp) o e,x.la.at fun o e=>hk l1 (by simp) o e,x.lb.at fun o e=>hk l2 (by simp) o e⟩
  item:=fun i s Q E hi hst hQ=>by
    refine an4 hst ?_;clear hst;intro hz hTI hx10 x
    refine ex2 hx10 ?_;clear hx10;intro a b hTO
    have hix:i < xs.size:=Nat.lt_of_lt_of_le hi (Nat.min_le_left ..)
    have hiy:i < ys.size:=Nat.lt_of_lt_of_le hi (Nat.min_le_right ..)
    refine item D hz hTI hTO x (Array.getElem?_eq_getElem hix) (Array.getElem?_eq_getElem hiy) fun h' a1 a2 a3 a5 hk=>?_
    have lt:∀ {c o},s.heap.get? c = some o→s.heap.objs.size≠c:=fun e=>Nat.ne_of_gt (Heap.lt_size e)
    exact hQ s.heap.objs.size #[xs[i],ys[i]] h' s.toks ⟨_,_,Array.getElem?_eq_getElem hix,Array.getElem?_eq_getElem hiy,rfl⟩ (Nat.le_refl _) ⟨_,a5,rfl,_,rfl⟩
      ⟨a1,hk _ _ D.TIz D.TITO D.TIi1 D.TIi2 hTI,⟨_,_,a2⟩,a3,lt hz,lt hTO,Nat.ne_of_gt x.lt1.1,Nat.ne_of_gt x.lt1.2⟩
      fun c o hc e=>hk c o (fun x=>hc (by simp [x])) (fun x=>hc (by simp [x])) (fun x=>hc (by simp [x])) (fun x=>hc (by simp [x])) e
  go:=fun elts k pos i T s Q E hm hQ=>by
    refine an5 hm ?_;clear hm;intro hz hTI hx11 x _
    refine ex2 hx11 ?_;clear hx11;intro a b hTO
    exact wpAny_letOwnedTupleGo_zip hz fun h' hz' hs'=>hQ h' ⟨hz',hs'.extBut _ _ D.TIz hTI,⟨a,b,hs'.extBut _ _ D.TOz hTO⟩,x.keep hs'.extBut D.i1z D.i2z D.l1z D.l2z⟩ fun c o hc e=>hs'.extBut _ _ (fun x=>hc (by simp [x])) e
  apart:=fun i T h hm hT=>by
    refine an8 hm ?_;clear hm;intro _ _ _ _ t1 t2 t3 t4
    simp at hT
    rcases hT with rfl | rfl | rfl | rfl
    · exact t1 rfl
    · exact t2 rfl
    · exact t3 rfl
    · exact t4 rfl
  done:=fun s Q E hst hQ=>by
    refine an4 hst ?_;clear hst;intro hz hTI hx12 x
    refine ex2 hx12 ?_;clear hx12;intro a b hTO
    have hend:xs[min xs.size ys.size]? = none∨ys[min xs.size ys.size]? = none:=by
      rcases Nat.le_total xs.size ys.size with h | h
      · exact .inl (by rw [Nat.min_eq_left h];exact Array.getElem?_eq_none (Nat.le_refl _))
      · exact .inr (by rw [Nat.min_eq_right h];exact Array.getElem?_eq_none (Nat.le_refl _))
    exact fin hh D hz hTI hTO x hend fun h' hk=>hQ h' s.toks fun c o hc e=>hk c o (fun x=>hc (by simp [x])) (fun x=>hc (by simp [x])) (fun x=>hc (by simp [x])) (fun x=>hc (by simp [x])) e
  self:=fun i s Q E hst hQ=>wpAny_pyIter_zip hst.1 hQ
end Zt
section
variable {w:World} {c:Cx} {m:Str→Option Value} {own P:Led} {s:Shared} {E:Value→Shared→Prop} {Q:Value→Shared→Prop}
theorem src_zipT {elts:List Expr} {kk:Nat} {pos:Pos} {l1 l2:Addr} {xs ys:List Value} {e1 e2:Nat} (S:St w c m own P s) (hl1:(l1,tupOf xs e1)∈P) (hl2:(l2,tupOf ys e2)∈P)
    (h:∀ I s',St w c m own P s'→Itr w c (.Tuple elts kk pos) own P I s' (min xs.length ys.length) (fun i v h=>∃ T x y,v = .ref T∧xs[i]? = some x∧ys[i]? = some y∧h.IsTuple T #[x,y])→Q (.ref I) s') :
    wpAny (model rw_pq1024_01.row.prog w) c.A (call (.type "zip") [.ref l1,.ref l2]) (fun xv s₁=>wpAny (model rw_pq1024_01.row.prog w) c.A (pyIter xv) Q E s₁) E s:=by
  have h1:s.heap.IsTuple l1 xs.toArray:=⟨_,S.inP hl1,rfl,_,rfl⟩
  have h2:s.heap.IsTuple l2 ys.toArray:=⟨_,S.inP hl2,rfl,_,rfl⟩
  have lt1:l1 < s.heap.objs.size:=Heap.lt_size (S.inP hl1)
  have lt2:l2 < s.heap.objs.size:=Heap.lt_size (S.inP hl2)
  have D:ZipApart (s.heap.objs.size + 4) (s.heap.objs.size + 2) (s.heap.objs.size + 3) s.heap.objs.size (s.heap.objs.size + 1) l1 l2:=ktu_apart _ _ _ lt1 lt2
  refine Zt.call2 h1 h2 fun h' hz hTI hTO hat hsz hk=>?_
  refine wpAny_pyIter_zip hz ?_
  have WT:=(Zt.walks (prog:=PR) (w:=w) S.hh _ _ _ _ _ _ _ D xs.toArray ys.toArray).toU
  have S':St w c m own P { s with heap:=h' }:=S.same (tk:=s.toks) (S.F.keeps hk) (S.N.grown hk) S.ap S.nd
  have W':=KTurns.ofWalksU (elts:=elts) (k:=kk) (pos:=pos) WT
  have e:(fun (i:Nat) (v:Value) (h:Heap)=>∃ T vals,v = .ref T∧(∃ x y,xs.toArray[i]? = some x∧ys.toArray[i]? = some y∧vals = #[x,y])∧h.IsTuple T vals) = fun i v h=>∃ T x y,v = .ref T∧xs[i]? = some x∧ys[i]? = some y∧h.IsTuple T #[x,y]:=by
    funext i v h
    apply propext
    constructor
    · intro hx13
      refine ex2 hx13 ?_;clear hx13;intro T vals hy15;refine an3 hy15 ?_;clear hy15;intro a hx14 d
      refine ex2 hx14 ?_;clear hx14;intro x y hy17;refine an3 hy17 ?_;clear hy17;intro b c hx16
      symm at hx16;subst hx16
      exact mk3 T x y ⟨a,by simpa using b,by simpa using c,d⟩
    · intro hx18
      refine ex3 hx18 ?_;clear hx18;intro T x y hy19;refine an4 hy19 ?_;clear hy19;intro a b c d
      exact mk2 T _ ⟨a,⟨x,y,by simpa using b,by simpa using c,rfl⟩,d⟩
  rw [e] at W'
  simp only [List.size_toArray] at W'
  refine h _ _ S' (Itr.mk' W' (fun i s' Q E=>WT.self i s' Q E) ?_ ?_ ?_ ?_ ?_)
  · exact ⟨hz,hTI,⟨_,_,hTO⟩,hat⟩
  · exact zz3 _
  · rintro i h ⟨hz,hTI,⟨a,b,hTO⟩,⟨⟨o1,ho1,_,_⟩,⟨o2,ho2,_,_⟩,⟨o3,ho3,_⟩,⟨o4,ho4,_⟩⟩⟩ b hb
    have hb':b = s.heap.objs.size + 4∨b = s.heap.objs.size + 2∨b = s.heap.objs.size + 3∨b = s.heap.objs.size∨b = s.heap.objs.size + 1∨b = l1∨b = l2:=by simpa using hb
    rcases hb' with rfl | rfl | rfl | rfl | rfl | rfl | rfl
    · exact ⟨_,hz⟩
    · exact ⟨_,hTI⟩
    · exact ⟨_,hTO⟩
    · exact ⟨_,ho1⟩
    · exact ⟨_,ho2⟩
    · exact ⟨_,ho3⟩
    · exact ⟨_,ho4⟩
  · intro b hb
    have hb':b = s.heap.objs.size + 4∨b = s.heap.objs.size + 3∨b = s.heap.objs.size∨b = s.heap.objs.size + 1:=by simpa using hb
    have hge:s.heap.objs.size≤b:=zz1 _ _ hb'
    exact ⟨S.freshG hge,fun q hq=>Nat.ne_of_lt (Nat.lt_of_lt_of_le (S.below q hq) hge)⟩
  · intro b hb
    have hb':b = s.heap.objs.size + 4∨b = s.heap.objs.size + 2∨b = s.heap.objs.size + 3∨b = s.heap.objs.size∨b = s.heap.objs.size + 1∨b = l1∨b = l2:=by simpa using hb
    show _∧b < h'.objs.size∧_
    rw [hsz]
    have hge:=zz2 _ _ _ _ hb'
    rcases hge with ⟨hge,hle⟩ | rfl | rfl
    · exact ⟨Nat.ne_of_gt (Nat.lt_of_lt_of_le S.lo hge),hle,fun q hq=>Nat.ne_of_lt (Nat.lt_of_lt_of_le (S.below q (List.mem_append_left _ hq)) hge)⟩
    · exact ⟨(S.N _ (List.mem_append_right _ hl1)).2.1,Nat.lt_of_lt_of_le lt1 (Nat.le_add_right _ _),fun q hq=>Ne.symm (S.ap q hq _ hl1)⟩
    · exact ⟨(S.N _ (List.mem_append_right _ hl2)).2.1,Nat.lt_of_lt_of_le lt2 (Nat.le_add_right _ _),fun q hq=>Ne.symm (S.ap q hq _ hl2)⟩
end
end
section
open PySem.Calls
theorem cellsAre_fst {cm:Str→Option Value}:∀ {l:List (Str × Addr)} {cells:Led},CellsAre cm l cells→cells.map (·.1) = l.map (·.2):=by
  intro l cells h
  induction h with
  | nil=>rfl
  | cons _ _ ih=>rw [List.map_cons,List.map_cons,ih]
theorem enterC2 {w:World} {c:Cx} {m:Str→Option Value} {own P:Led} {s:Shared} {Q E:Value→Shared→Prop} {K:Frag} {name qual:Str} {params:Arguments} {body:List Stmt} {ns:List (Str × NameKind)} {mo:List (Str × Const)} {dV kV doc pm cdv ct oc:Value} {an od:Option Addr} {osl:Array (Option Value)} {f:Addr} {vs:List Value} {vals:List (Option Value)} {Out:Led→Led→Value→Prop} {clf:Addr→List (Str × Addr)}
    (hK:K = hd.heap_39 w.params) (S:St w c m own P s)
    (ho:K.lookup f = some ⟨oc,od,.func (fnOf name qual params body (fnSc ns mo) dV kV doc pm an cdv ct),osl⟩) (hcd:codeIn K cdv qual = true) (hroom:c.A.depth < recursionLimit)
    (hbind:BindsTo s (fnOf name qual params body (fnSc ns mo) dV kV doc pm an cdv ct) ⟨vs,[]⟩ ((params.args.map (·.arg)).zip vs))
    (hkind:(((params.args.map (·.arg)).zip vs).all fun y=>ns.lookup y.1 == some .local || ns.lookup y.1 == some .cell) = true) (hnd:((cellsFrom 0 ns []).map (·.1)).Nodup) (hgood:goodNs ns = true)
    (hcl:∀ L',cellsFrom (L' + 1) ns [] = clf L') (hcn:∀ L',((clf L').map (·.2)).Nodup)
    (hbL:∀ L',bindL (envOfC qual (fnSc ns mo) L' f cdv).kindOf ((params.args.map (·.arg)).zip vs) (fun _=>none) = asg ns vals)
    (h:∀ c' s' cc,goodNs ns = true→c'.A.depth = c.A.depth + 1→c'.A.units = c.A.units + 3→CellsAre (bindC (envOfC qual (fnSc ns mo) c'.L f cdv).kindOf ((params.args.map (·.arg)).zip vs) fun _=>none) (clf c'.L) cc→St w c' (asg ns vals) (cc ++ own) P s' →
      wpAny (model rw_pq1024_01.row.prog w) c'.A (execs body (envX qual (fnSc ns mo) c'.L f cdv (clf c'.L))) (fun fl s''=>Ends w c' P (fun cs P' r=>cs.map (·.1) = own.map (·.1)∧Out cs P' r) (match fl with | .ret v=>v | _=>.none) s'') (fun _ _=>False) s')
    (ret:∀ r own' P' s',St w c m own' P' s'→own'.map (·.1) = own.map (·.1)→(∀ p∈P,p∈P')→Out own' P' r→Q r s') :
    codeAny (model rw_pq1024_01.row.prog w) c.A (.call (.ref f) ⟨vs,[]⟩) (fun r s'=>match r with | .ok (.ret v)=>Q v s' | .ok _=>False | .error e=>E e s') s:=by
  subst hK
  refine ex1 (S.fr) ?_;intro e hy1;refine an3 hy1 ?_;clear hy1;intro hA hf hke
  refine code_defC (news:=own ++ P) S.B S.F S.X S.N S.T hA hf hke ho hcd hroom hbind hkind hnd (fun g L' h₁ tk cc FG F' N' Y B' X' T' lt=>?_) rfl rfl rfl
  rw [hbL] at F'
  let c':Cx:=⟨c.pp,c.loose,c.mean,c.mg,c.mb,c.A,c.base,e::c.outer,g,L',c.A.deeper (envOfC qual (fnSc ns mo) L' f cdv),s⟩
  have hge:=cellsGe Y
  have hdisj:∀ p∈own ++ P,∀ q∈cc,q.1≠p.1:=fun p hp q hq=>Nat.ne_of_gt (Nat.lt_of_lt_of_le (Nat.lt_succ_of_lt (lt p hp)) (hge q hq))
  have S':St w c' (asg ns vals) (cc ++ own) P { s with heap:=h₁,toks:=tk }:=by
    refine ⟨F',fun p hp=>N' p (by rw [List.append_assoc] at hp;exact hp),fun q hq p hp=>?_,?_,X',T',B',S.hh,⟨_,Around.frames_deeper B'.stack,rfl,rfl⟩,rfl,rfl,rfl⟩
    · rcases List.mem_append.mp hq with hq | hq
      · exact (hdisj p (List.mem_append_right _ hp) q hq).symm
      · exact S.ap q hq p hp
    · rw [List.map_append]
      refine List.nodup_append.mpr ⟨by rw [cellsAre_fst Y];exact hcl L' ▸ hcn L',S.nd,?_⟩
      intro a ha b hb e
      refine ex1 (List.mem_map.mp ha) ?_;intro q hy3;refine an2 hy3 ?_;clear hy3;intro hq hx2
      symm at hx2;subst hx2
      refine ex1 (List.mem_map.mp hb) ?_;intro p hy5;refine an2 hy5 ?_;clear hy5;intro hp hx4
      symm at hx4;subst hx4
      exact hdisj p (List.mem_append_left _ hp) q hq e
  have hb:=h c' _ cc hgood rfl rfl (hcl L' ▸ Y) S'
  rw [← hcl L'] at hb
  refine wpAny_mono hb (fun fl s' hdn=>?_) fun _ _ e=>e.elim
  refine ex4 hdn ?_;clear hdn;intro m₂ own₂ ex P' hy6;refine an4 hy6 ?_;clear hy6;intro S₂ hs hcs hO
  refine mk3 L' m₂ ((own₂ ++ ex) ++ P') ⟨S₂.F,S₂.N,fun F₃ N₃=>?_⟩
  have eq':s' = { s with heap:=s'.heap,toks:=s'.toks }:=by
    have h1:=S₂.eg
    have h2:=S₂.ed
    have h3:=S₂.eo
    cases s'
    dsimp only [c'] at h1 h2 h3
    subst h1 h2 h3
    rfl
  refine ret _ own₂ P' s' ⟨F₃,fun p hp=>N₃ p ?_,fun q hq=>S₂.ap q (List.mem_append_left _ hq),by rw [hcs];exact S.nd,S.X,S.T,S.B,S.hh,S.fr,(congrArg Shared.gens eq').trans S.eg,(congrArg Shared.drawn eq').trans S.ed,(congrArg Shared.os eq').trans S.eo⟩ hcs hs hO
  rcases List.mem_append.mp hp with hp | hp
  · exact List.mem_append_left _ (List.mem_append_left _ hp)
  · exact List.mem_append_right _ hp
section
variable {w:World} {c:Cx} {m:Str→Option Value} {own P:Led} {s:Shared} {E:Value→Shared→Prop} {Q:Value→Shared→Prop} {cn:Str} {a:Addr} {ccd:Value} {cl:List (Str × Addr)}
theorem St.updF (S:St w c m own P s) {d:Addr} {o:Obj} {rest:Led} (ho:own = (d,o)::rest):UpdF d o (own ++ P) (fun o'=>(d,o')::(rest ++ P)):=by
  subst ho
  refine .head fun p hp=>?_
  rcases List.mem_append.mp hp with hp | hp
  · exact fun e=>(List.nodup_cons.mp S.nd).1 (List.mem_map.mpr ⟨p,hp,e⟩)
  · exact S.ap _ (.head _) p hp
theorem st_cell {ns:List (Str × NameKind)} {mo:List (Str × Const)} {vals:List (Option Value)} {x:Str} {v:Value} {v₀:Option Value} {cc:Addr} {o:Obj} {Q:Unit→Shared→Prop} (S:St w c (asg ns vals) ((cc,o)::own) P s) (g:goodNs ns = true) (hc:cl.lookup x = some cc) (hd:o.data = .cell v₀) (hx:(x,NameKind.cell)∈ns)
    (h:∀ s' o',o'.data = .cell (some v)→St w c (asg ns vals) ((cc,o')::own) P s'→Q () s') :
    wpAny (model rw_pq1024_01.row.prog w) c.A (storeName (envX cn (fnSc ns mo) c.L a ccd cl) x v) Q E s :=
  storeX_C S.F S.N hc (S.updF rfl) hd (fun h' o' F' N' hd'=>h _ o' hd' (S.setO rfl (tk:=s.toks) F' N')) rfl (goodNs_mem g hx).1
theorem compLP {x y:Str} {px py tp:Pos} {kk:Nat} {elt:Expr} {ifs:List Expr} {scope:Scope} {cl:List (Str × Addr)} {env:Env} {Fin:Led→Led→List Value→Addr→Prop} {l:Addr} {vs:List Value} {e:Nat} (S:St w c m own P s) (hl:(l,listOf vs.toArray e)∈P) (hb:vs.length≤1000000) (hkind:scope.kind = .function) (hx:scope.names.lookup x = some .local) (hy:scope.names.lookup y = some .local) (hxy:x≠y)
    (R:Nat→Value→Value→Prop) (hp:∀ (i:Nat) (v:Value),vs[i]? = some v→∃ (T:Addr) (a b:Value) (e:Nat),v = Value.ref T∧(T,tupOf [a,b] e)∈P∧R i a b)
    (J:Nat→Led→Led→List Value→Prop) (h0:J 0 own P []) (hJ:∀ i own₁ P₁ ys,J i own₁ P₁ ys→∀ p∈P,p∈P₁)
    (step:∀ i own₁ P₁ P₁' tl C oC m₂ ys s₂ E',i < vs.length→J i own₁ P₁ ys→(∃ (a b:Value),R i a b∧m₂ x = some a∧m₂ y = some b)→LCg.NsObj oC m₂→(C,oC)∈tl→St w c m (own₁ ++ tl) P₁' s₂→(∀ p∈P₁,p∈P₁') →
      Stage w c.A (compEnvC scope cl C env) ifs elt (fun o s₄=>∃ own₂ P₂,St w c m (own₂ ++ tl) P₂ s₄∧(∀ p∈P₁',p∈P₂)∧J (i + 1) own₂ P₂ (ys ++ o.toList)) E' s₂)
    (fin:∀ own' P' ys D,J vs.length own' P' ys→Fin own' P' ys D) :
    wpAny (model rw_pq1024_01.row.prog w) c.A (pyIter (.ref l)) (CompAt w c m (.Tuple [.Name x px,.Name y py] kk tp) elt ifs scope cl env Fin) E s:=by
  have hh:=S.hh
  refine src_list (target:=.Tuple [.Name x px,.Name y py] kk tp) S hl fun I s2 S2 hI=>?_
  refine mk7 I _ _ vs.length _ (fun i m₂=>∃ a b,R i a b∧m₂ x = some a∧m₂ y = some b) J ⟨rfl,S2,hI,hb,?_,h0,step,fin⟩
  rintro i v C m₁ own₁ P₁ ys s₁ Q E hi hv hJi hg hn h
  refine ex4 (hp i v hv) ?_;intro T a b e' hy8;refine an3 hy8 ?_;clear hy8;intro hx7 hT hR
  symm at hx7;subst hx7
  have hT':s₁.heap.IsTuple T #[a,b]:=⟨_,hg _ (hJ _ _ _ _ hJi _ hT),rfl,_,rfl⟩
  exact asgC_pair hh hkind hx hy hxy hn hT' fun h' tk m₂ hn' hx hy hk=>h h' tk m₂ hn' ⟨a,b,hR,hx,hy⟩ hk
theorem compZT {x y:Str} {px py tp:Pos} {kk:Nat} {elt:Expr} {ifs:List Expr} {scope:Scope} {cl:List (Str × Addr)} {env:Env} {Fin:Led→Led→List Value→Addr→Prop} {l1 l2:Addr} {xs ys₀:List Value} {e1 e2:Nat} (S:St w c m own P s) (hl1:(l1,tupOf xs e1)∈P) (hl2:(l2,tupOf ys₀ e2)∈P) (hb:min xs.length ys₀.length≤1000000) (hkind:scope.kind = .function) (hx:scope.names.lookup x = some .local) (hy:scope.names.lookup y = some .local) (hxy:x≠y)
    (J:Nat→Led→Led→List Value→Prop) (h0:J 0 own P [])
    (step:∀ i own₁ P₁ P₁' tl C oC m₂ ys s₂ E',i < min xs.length ys₀.length→J i own₁ P₁ ys→(∃ a b,xs[i]? = some a∧ys₀[i]? = some b∧m₂ x = some a∧m₂ y = some b)→LCg.NsObj oC m₂→(C,oC)∈tl→St w c m (own₁ ++ tl) P₁' s₂→(∀ p∈P₁,p∈P₁') →
      Stage w c.A (compEnvC scope cl C env) ifs elt (fun o s₄=>∃ own₂ P₂,St w c m (own₂ ++ tl) P₂ s₄∧(∀ p∈P₁',p∈P₂)∧J (i + 1) own₂ P₂ (ys ++ o.toList)) E' s₂)
    (fin:∀ own' P' ys D,J (min xs.length ys₀.length) own' P' ys→Fin own' P' ys D) :
    wpAny (model rw_pq1024_01.row.prog w) c.A (call (.type "zip") [.ref l1,.ref l2]) (fun xv s₁=>wpAny (model rw_pq1024_01.row.prog w) c.A (pyIter xv) (CompAt w c m (.Tuple [.Name x px,.Name y py] kk tp) elt ifs scope cl env Fin) E s₁) E s:=by
  have hh:=S.hh
  refine src_zipT (elts:=[.Name x px,.Name y py]) (kk:=kk) (pos:=tp) S hl1 hl2 fun I s2 S2 hI=>?_
  refine mk7 I _ _ _ _ (fun i m₂=>∃ a b,xs[i]? = some a∧ys₀[i]? = some b∧m₂ x = some a∧m₂ y = some b) J ⟨rfl,S2,hI,hb,?_,h0,step,fin⟩
  intro i v C m₁ own₁ P₁ ys s₁ Q E hi hx9
  refine ex3 hx9 ?_;clear hx9;intro T a b hy11;refine an4 hy11 ?_;clear hy11;intro hx10 ha hb' hT
  symm at hx10;subst hx10
  intro hJi hg hn h
  exact asgC_pair hh hkind hx hy hxy hn hT fun h' tk m₂ hn' hx hy hk=>h h' tk m₂ hn' ⟨a,b,ha,hb',hx,hy⟩ hk
theorem tup_from {value slice:Expr} {l:Addr} {xs:List Value} {k:Nat} {n:Nat} {u:Tok} (S:St w c m own P s) (hl:(l,tupOf xs n)∈P) (h1:1≤k) (hk:k≤xs.length) (hz:xs.length≤1000000)
    (h:∀ D s',St w c m own ((D,tupOf (xs.drop k) 0)::P) s'→Q (.ref D) s')
    (hs:subscripted slice false (.ref l) (.ref s.heap.objs.size) = operate [.ref s.heap.objs.size,.ref l] (getItem (.ref l) (.ref s.heap.objs.size))) (ht:∀ r,letTemporaryGo value (.ref l) r = pure ()) :
    wpAny (model rw_pq1024_01.row.prog w) c.A (subscriptTail value slice (.ref l) (.ref s.heap.objs.size)) Q E { s with heap:=s.heap.push { cls:=.type "slice",data:=.fields #[.int (k:Nat) u,.none,.none] } }:=by
  refine slice_tuple_from S.F S.N (S.N.isTup (List.mem_append_right _ hl)) h1 (by simpa using hk) (fun h' F' N'=>h _ _ (S.addP (tk:=s.toks) F' N' fun p hp=>Nat.lt_succ_of_lt (S.below p hp))) hs ht (by rw [List.size_toArray];exact fits_le hz)
theorem add_tup {t b:Addr} {vs ws:List Value} {e1 e2:Nat} (S:St w c m own P s) (ht:(t,tupOf vs e1)∈P) (hb:(b,tupOf ws e2)∈P) (hz:vs.length + ws.length≤1000000)
    (h:∀ D e P' s',St w c m own P' s'→(∀ p∈P,p∈P')→(D,tupOf (vs ++ ws) e)∈P'→Q (.ref D) s') :
    wpAny (model rw_pq1024_01.row.prog w) c.A (binaryOp .Add (.ref t) (.ref b)) Q E s:=by
  refine add_tuples S.F S.N (S.N.isTup (List.mem_append_right _ ht)) (S.N.isTup (List.mem_append_right _ hb)) (fun e=>?_) (fun _ e=>?_) (fun _ _ h' F' N'=>?_) (fits_le hz)
  · subst e;exact h b e2 P s S (fun _ h=>h) hb
  · subst e;exact h t e1 P s S (fun _ h=>h) (by rw [List.append_nil];exact ht)
  · exact h _ 0 _ _ (S.addP (tk:=s.toks) F' N' fun p hp=>S.below p hp) (fun p hp=>.tail _ hp) (.head _)
theorem len_T {l:Addr} {xs:List Value} {e:Nat} (S:St w c m own P s) (hl:(l,tupOf xs e)∈P) (hz:xs.length≤1000000) (h:∀ s' tk,St w c m own P s'→Q (.int (xs.length:Nat) tk) s') :
    wpAny (model rw_pq1024_01.row.prog w) c.A (call (.builtin "len") [.ref l]) Q E s :=
  PyProof.Rows.len_tuple (S.N.isTup (List.mem_append_right _ hl)) (by rw [List.size_toArray];lia) (by rw [List.size_toArray];exact h _ _ (S.tok _))
theorem list_ofT {b:Addr} {xs:List Value} {n:Nat} (S:St w c m own P s) (hb:(b,tupOf xs n)∈P) (hz:xs.length≤1000000)
    (h:∀ D e s',St w c m own ((D,listOf xs.toArray e)::P) s'→Q (.ref D) s'):wpAny (model rw_pq1024_01.row.prog w) c.A (call (.type "list") [.ref b]) Q E s :=
  kup_listOfT (zs:=xs) S.F S.N (List.mem_append_right _ hb) (by simp) (fun D e h' F' N' lt=>h D e _ (S.addP (tk:=s.toks) F' N' lt)) (by simpa using fits_le hz)
theorem unp3 {T:Addr} {x y z:Value} {e:Nat} {Q:List Value→Shared→Prop} (S:St w c m own P s) (ht:(T,tupOf [x,y,z] e)∈P) (h:∀ s',St w c m own P s'→Q [x,y,z] s') :
    wpAny (model rw_pq1024_01.row.prog w) c.A (unpackItems (.ref T) 3 none) Q E s :=
  unpackItems_tuple (items:=#[x,y,z]) S.hh ⟨_,S.inP ht,rfl,_,rfl⟩ fun h' he=>h _ (by
    have he':∀ b o,s.heap.get? b = some o→h'.get? b = some o:=fun b o e=>he b o (Nat.ne_of_lt (Heap.lt_size e)) e
    exact S.same (tk:=s.toks) (S.F.keeps he') (S.N.grown he') S.ap S.nd)
theorem asgF_triple {x y z:Str} {px py pz tp:Pos} {kk:Nat} {cn:Str} {ns:List (Str × NameKind)} {mo:List (Str × Const)} {a₀:Addr} {ccd:Value} {cl:List (Str × Addr)} {vals:List (Option Value)} {T:Addr} {a b d:Value} {e:Nat} {Q:Unit→Shared→Prop} (S:St w c (asg ns vals) own P s) (g:goodNs ns = true) (ht:(T,tupOf [a,b,d] e)∈P)
    (h:SetQ ns vals x a (fun vals₁=>SetQ ns vals₁ y b (fun vals₂=>SetQ ns vals₂ z d (fun vals₃=>∀ s',St w c (asg ns vals₃) own P s'→Q () s')))) :
    wpAny (model rw_pq1024_01.row.prog w) c.A (assign (.Tuple [.Name x px,.Name y py,.Name z pz] kk tp) (envX cn (fnSc ns mo) c.L a₀ ccd cl) (.ref T)) Q E s:=by
  have ht':s.heap.IsTuple T #[a,b,d]:=⟨_,S.inP ht,rfl,_,rfl⟩
  refine assign_Tuple_tuple S.hh ht' rfl rfl fun h₅ he=>?_
  have he':∀ b o,s.heap.get? b = some o→h₅.get? b = some o:=fun b o e=>he b o (Nat.ne_of_lt (Heap.lt_size e)) e
  have S₅:St w c (asg ns vals) own P { s with heap:=h₅ }:=S.same (tk:=s.toks) (S.F.keeps he') (S.N.grown he') S.ap S.nd
  refine ex1 h ?_;clear h;intro vals₁ hy13;refine an2 hy13 ?_;clear hy13;intro l₁ hz12;refine ex1 hz12 ?_;clear hz12;intro vals₂ hy15;refine an2 hy15 ?_;clear hy15;intro l₂ hz14;refine ex1 hz14 ?_;clear hz14;intro vals₃ hy16;refine an2 hy16 ?_;clear hy16;intro l₃ h
  refine assignInOrder_cons (wpAny_assign_Name (st_loc S₅ g ⟨vals₁,l₁,fun s₁ S₁=>?_⟩))
  refine assignInOrder_cons (wpAny_assign_Name (st_loc S₁ g ⟨vals₂,l₂,fun s₂ S₂=>?_⟩))
  exact assignInOrder_cons (wpAny_assign_Name (st_loc S₂ g ⟨vals₃,l₃,fun s₃ S₃=>assignInOrder_nil (h _ S₃)⟩))
theorem St.abs {X:Prop} (S:St w c m own P s) (h:∀ P',St w c m own P' s→(∀ p∈P,p∈P')→X):X:=h _ S (fun _ h=>h)
end
/-- a pair of a number and a told tree -/
noncomputable def KpR (P:Led) (v:Value) (p:Int × T):Prop:=∃ q u vv e,v = .ref q∧(q,tupOf [.int p.1 u,vv] e)∈P∧DatIn P vv p.2.tell
theorem KpR.mono {P P':Led} (hs:∀ p∈P,p∈P') (v:Value) (t:Int × T) (h:KpR P v t):KpR P' v t:=by
  refine ex4 h ?_;clear h;intro q u vv e hy17;refine an3 hy17 ?_;clear hy17;intro a b c
  exact mk4 q u vv e ⟨a,hs _ b,c.mono hs⟩
theorem kp_dall {P:Led}:∀ {vs:List Value} {l:List (Int × T)},All2 (KpR P) vs l→DatAll P vs (l.map fun p=>.tuple [.int p.1,p.2.tell]):=by
  intro vs l h
  induction h with
  | nil=>exact .nil
  | cons h _ ih =>
    refine ex4 h ?_;clear h;intro q u vv e hy19;refine an3 hy19 ?_;clear hy19;intro hx18 hq hv
    symm at hx18;subst hx18
    exact .cons (.tuple hq (.cons (.int _ _) (.cons hv .nil))) ih
theorem kp_ok (l:List (Int × T)) (B:Nat) (h:∀ p∈l,2 * p.2.dep≤B):kqdOk (B + 4) (.list (l.map fun p=>.tuple [.int p.1,p.2.tell])) = true:=by
  show (l.map fun p=>Dat.tuple [.int p.1,p.2.tell]).all (kqdOk (B + 3)) = true
  rw [List.all_eq_true]
  intro d hd
  refine ex1 (List.mem_map.mp hd) ?_;intro p hy21;refine an2 hy21 ?_;clear hy21;intro hp hx20
  symm at hx20;subst hx20
  rw [kqd_tup]
  simp only [List.all_cons,List.all_nil,Bool.and_true,Bool.and_eq_true]
  exact ⟨kqd_int _ _,kqd_tell _ _ (h p hp)⟩
theorem kp_nil {l:List (Int × T)}:Dat.list (l.map fun p=>.tuple [.int p.1,p.2.tell]) = Dat.list [] ↔ l = []:=by
  simp
section
variable {w:World} {c:Cx} {m:Str→Option Value} {own P:Led} {s:Shared} {E:Value→Shared→Prop} {Q:Value→Shared→Prop}
theorem compFst {x y:Str} {px py pe tp:Pos} {kk:Nat} {scope:Scope} {cl:List (Str × Addr)} {env:Env} {Fin:Led→Led→List Value→Addr→Prop} {l:Addr} {vs:List Value} {e:Nat} {kp:List (Int × T)} (S:St w c m own P s) (hl:(l,listOf vs.toArray e)∈P) (hv:All2 (KpR P) vs kp) (hb:vs.length≤1000000) (hkind:scope.kind = .function) (hx:scope.names.lookup x = some .local) (hy:scope.names.lookup y = some .local) (hxy:x≠y) (hd:(x == ("__debug__":Str)) = false)
    (fin:∀ P' ys D,(∀ p∈P,p∈P')→IntsAre ys (kp.map (·.1))→Fin own P' ys D) :
    wpAny (model rw_pq1024_01.row.prog w) c.A (pyIter (.ref l)) (CompAt w c m (.Tuple [.Name x px,.Name y py] kk tp) (.Name x pe) [] scope cl env Fin) E s:=by
  refine compLP S hl hb hkind hx hy hxy (fun i a b=>∃ p u,kp[i]? = some p∧a = .int p.1 u∧DatIn P b p.2.tell) ?_ (fun i own₁ P₁ ys=>own₁ = own∧(∀ p∈P,p∈P₁)∧IntsAre ys ((kp.take i).map (·.1))) ⟨rfl,fun _ h=>h,.nil⟩ (fun _ _ _ _ h=>h.2.1) ?_ ?_
  · intro i v hi
    refine ex1 (hv.get hi) ?_;intro p hy24;refine an2 hy24 ?_;clear hy24;intro hp hz23;refine ex4 hz23 ?_;clear hz23;intro q u vv e hy25;refine an3 hy25 ?_;clear hy25;intro hx22 hq hvv
    symm at hx22;subst hx22
    exact mk4 q _ vv e ⟨rfl,hq,mk2 p u ⟨hp,rfl,hvv⟩⟩
  · intro i own₁ P₁ P₁' tl C oC m₂ ys s₂ E' hi hx26
    refine an3 hx26 ?_;clear hx26;intro hx27 hPi hys
    symm at hx27;subst hx27
    intro hx28
    refine ex2 hx28 ?_;clear hx28;intro a b hy30;refine an3 hy30 ?_;clear hy30;intro hx29 hma hmb
    refine ex2 hx29 ?_;clear hx29;intro p u hy32;refine an3 hy32 ?_;clear hy32;intro hp hx31 hvv
    symm at hx31;subst hx31
    intro hC htl S hs
    show wpAny _ _ _ _ _ _
    refine cv_loc S (List.mem_append_right _ htl) hC hma ?_ (by simp [compEnvC,relabel,hkind]) (lookup_relabel_local hx) hd
    refine mk2 _ _ ⟨S,fun _ h=>h,rfl,fun p hp=>hs _ (hPi _ hp),?_⟩
    rw [List.take_add_one,hp,List.map_append]
    exact hys.append (.cons _ _ .nil)
  · intro own' P' ys D hx33
    refine an3 hx33 ?_;clear hx33;intro hx34 hP hys
    symm at hx34;subst hx34
    rw [hv.length,List.take_length] at hys
    exact fin _ _ _ hP hys
theorem compSnd {x y:Str} {px py pe tp:Pos} {kk:Nat} {scope:Scope} {cl:List (Str × Addr)} {env:Env} {Fin:Led→Led→List Value→Addr→Prop} {l:Addr} {vs:List Value} {e:Nat} {kp:List (Int × T)} (S:St w c m own P s) (hl:(l,listOf vs.toArray e)∈P) (hv:All2 (KpR P) vs kp) (hb:vs.length≤1000000) (hkind:scope.kind = .function) (hx:scope.names.lookup x = some .local) (hy:scope.names.lookup y = some .local) (hxy:x≠y) (hd:(y == ("__debug__":Str)) = false)
    (fin:∀ P' ys D,(∀ p∈P,p∈P')→DatAll P' ys (tells (kp.map (·.2)))→Fin own P' ys D) :
    wpAny (model rw_pq1024_01.row.prog w) c.A (pyIter (.ref l)) (CompAt w c m (.Tuple [.Name x px,.Name y py] kk tp) (.Name y pe) [] scope cl env Fin) E s:=by
  refine compLP S hl hb hkind hx hy hxy (fun i a b=>∃ p u,kp[i]? = some p∧a = .int p.1 u∧DatIn P b p.2.tell) ?_ (fun i own₁ P₁ ys=>own₁ = own∧(∀ p∈P,p∈P₁)∧DatAll P₁ ys (tells ((kp.take i).map (·.2)))) ⟨rfl,fun _ h=>h,.nil⟩ (fun _ _ _ _ h=>h.2.1) ?_ ?_
  · intro i v hi
    refine ex1 (hv.get hi) ?_;intro p hy37;refine an2 hy37 ?_;clear hy37;intro hp hz36;refine ex4 hz36 ?_;clear hz36;intro q u vv e hy38;refine an3 hy38 ?_;clear hy38;intro hx35 hq hvv
    symm at hx35;subst hx35
    exact mk4 q _ vv e ⟨rfl,hq,mk2 p u ⟨hp,rfl,hvv⟩⟩
  · intro i own₁ P₁ P₁' tl C oC m₂ ys s₂ E' hi hx39
    refine an3 hx39 ?_;clear hx39;intro hx40 hPi hys
    symm at hx40;subst hx40
    intro hx41
    refine ex2 hx41 ?_;clear hx41;intro a b hy43;refine an3 hy43 ?_;clear hy43;intro hx42 hma hmb
    refine ex2 hx42 ?_;clear hx42;intro p u hy45;refine an3 hy45 ?_;clear hy45;intro hp hx44 hvv
    symm at hx44;subst hx44
    intro hC htl S hs
    show wpAny _ _ _ _ _ _
    refine cv_loc S (List.mem_append_right _ htl) hC hmb ?_ (by simp [compEnvC,relabel,hkind]) (lookup_relabel_local hy) hd
    refine mk2 _ _ ⟨S,fun _ h=>h,rfl,fun p hp=>hs _ (hPi _ hp),?_⟩
    rw [List.take_add_one,hp,List.map_append,tells_append]
    exact (hys.mono hs).append (.cons (hvv.mono fun p hp=>hs _ (hPi _ hp)) .nil)
  · intro own' P' ys D hx46
    refine an3 hx46 ?_;clear hx46;intro hx47 hP hys
    symm at hx47;subst hx47
    rw [hv.length,List.take_length] at hys
    exact fin _ _ _ hP hys
end
theorem seqOf_ne1 {l:List T} (h:¬ l.length = 1):seqOf l = .seq l:=by
  match l with
  | []=>rfl
  | [_]=>exact absurd rfl h
  | _::_::_=>rfl
end
section
open PySem.Calls
theorem wk_tell (t:T) (h:noFix t = true) (f:T→T):(t.wk (t.kids.map f)).tell = .tuple [.int t.kind,.tuple t.own,.tuple (tells (t.kids.map f))]:=by
  cases t <;> first | rfl | (simp [noFix] at h;done) | simp [T.wk,T.kids,T.tell,T.kind,T.own,tells]
theorem turn_not8 {c:Int→Nat} {t:T} (h:¬ t.kind = 8):turn c t = t:=by
  cases t <;> first | rfl | exact absurd rfl h
theorem wk_kind (t:T) (l:List T):(t.wk l).kind = t.kind:=by
  cases t with
  | setl n v=>rcases l with _ | ⟨a,_ | ⟨b,r⟩⟩ <;> rfl
  | lam a b c=>rcases l with _ | ⟨a,_ | ⟨b,r⟩⟩ <;> rfl
  | call f xs=>cases l <;> rfl
  | _=>rfl
theorem turn_not7 {c:Int→Nat} {f:T} {xs:List T} (h:¬ f.kind = 7):turn c (.call f xs) = .call f xs:=by
  cases f <;> first | rfl | exact absurd rfl h
theorem kind8 {f:T} (h:f.kind = 8):∃ g xs,f = .call g xs:=by cases f <;> first | exact ⟨_,_,rfl⟩ | cases h
theorem dall_cons {P:Led} {vs:List Value} {d:Dat} {ds:List Dat} (h:DatAll P vs (d::ds)):∃ v r,vs = v::r∧DatIn P v d∧DatAll P r ds:=by cases h with | cons a r=>exact ⟨_,_,rfl,a,r⟩
theorem dall_nil {P:Led} {vs:List Value} (h:DatAll P vs []):vs = []:=by cases h;rfl
theorem din_int {P:Led} {v:Value} {i:Int} (h:DatIn P v (.int i)):∃ t,v = .int i t:=by cases h;exact ⟨_,rfl⟩
theorem din_tup {P:Led} {v:Value} {ds:List Dat} (h:DatIn P v (.tuple ds)):∃ a vs e,v = .ref a∧(a,tupOf vs e)∈P∧DatAll P vs ds:=by cases h with | tuple hm ha=>exact ⟨_,_,_,rfl,hm,ha⟩
theorem dall_ints {P:Led}:∀ {vs:List Value} {ns:List Int},DatAll P vs (dints ns)→IntsAre vs ns
  | vs,[],h=>by rw [dall_nil h];exact .nil
  | vs,n::r,h=>by
    refine ex2 (dall_cons h) ?_;intro v vs' hy2;refine an3 hy2 ?_;clear hy2;intro hx1 h1 h2
    symm at hx1;subst hx1
    refine ex1 (din_int h1) ?_;intro t hx3
    symm at hx3;subst hx3
    exact .cons _ _ (dall_ints h2)
theorem ints_dall {P:Led}:∀ {vs:List Value} {ns:List Int},IntsAre vs ns→DatAll P vs (dints ns)
  | _,_,.nil=>.nil
  | _,_,.cons _ _ h=>.cons (.int _ _) (ints_dall h)
theorem fin8_late (i:Fin 8):Str.ofString (toString (i.val:Int))≠Str.ofString "late":=by revert i;decide +kernel
theorem tell_un (t:T):t.tell = .tuple [.int 0,.tuple [.str (Str.ofString "late")],.tuple []] ↔ t.isUn = true:=by
  cases t with
  | cun=>exact ⟨fun _=>rfl,fun _=>rfl⟩
  | cint i =>
    refine ⟨fun h=>?_,fun h=>by cases h⟩
    exfalso
    simp only [T.tell,Dat.tuple.injEq,List.cons.injEq,Dat.str.injEq,and_true,true_and] at h
    exact fin8_late i h
  | _=>exact ⟨fun h=>by simp [T.tell] at h,fun h=>by cases h⟩
noncomputable abbrev TkR (P:Led) (v:Value) (t:T):Prop:=KpR P v (t.num,t.valu)
theorem TkR.mono {P P':Led} (hs:∀ p∈P,p∈P') (v:Value) (t:T) (h:TkR P v t):TkR P' v t:=KpR.mono hs v _ h
theorem isE_ne3 {t:T} (h:¬ t.kind = 3):isE t = false:=by cases t <;> first | rfl | exact absurd rfl h
theorem kind3 {t:T} (h:t.kind = 3):∃ n v,t = .setl n v:=by cases t <;> first | exact ⟨_,_,rfl⟩ | cases h
theorem isE_any (n:Int) (v:T):isE (.setl n v) = ([7,0]:List Int).any (· == v.kind):=by
  show (v.kind == 7 || v.kind == 0) = ((7 == v.kind) || ((0 == v.kind) || false))
  rw [BEq.comm (a:=v.kind),BEq.comm (a:=v.kind) (b:=0),Bool.or_false]
theorem kp_dep {items:List T} {tk:List T} {B:Nat} (hs:∀ t∈tk,t∈items) (hB:∀ t∈items,2 * t.dep≤B):∀ p∈tk.map (fun t=>(t.num,t.valu)),2 * p.2.dep≤B:=by
  intro p hp
  refine ex1 (List.mem_map.mp hp) ?_;intro t hy5;refine an2 hy5 ?_;clear hy5;intro ht hx4
  symm at hx4;subst hx4
  have h1:=hB t (hs t ht)
  have h2:=dep_valu t
  show 2 * t.valu.dep≤B
  lia
theorem dall_drop {P:Led}:∀ {vs:List Value} {ts:List T},DatAll P vs (tells ts)→∀ k,DatAll P (vs.drop k) (tells (ts.drop k))
  | _,_,h,0=>h
  | vs,[],h,k + 1=>by rw [dall_nil h];exact .nil
  | vs,t::r,h,k + 1=>by
    refine ex2 (dall_cons h) ?_;intro v vs' hy7;refine an3 hy7 ?_;clear hy7;intro hx6 h1 h2
    symm at hx6;subst hx6
    exact dall_drop h2 k
theorem All2.mapR {δ ε:Type} {R:Value→ε→Prop} {g:δ→ε}:∀ {vs:List Value} {ds:List δ},All2 (fun v d=>R v (g d)) vs ds→All2 R vs (ds.map g):=by
  intro vs ds h
  induction h with
  | nil=>exact .nil
  | cons h _ ih=>exact .cons h ih
theorem due1 {w:World} {P:Led} {W:T} {wv:Value} {cn:Int→Nat} (t:T) (v:Value) (hv:DatIn P v t.tell) (hwv:DatIn P wv W.tell) (hcn:∀ n,cn n = (setn W).count n) (hW:W.size≤4000) (hok:OkT cn t)
    (IH:∀ d∈t.kids,∀ v P,DatIn P v d.tell→DatIn P wv W.tell→Pure w (4 * d.dep + (2 * W.dep + 20)) P (call (.ref 565) [v,wv]) fun P' r=>DatIn P' r (fixT cn d).tell) :
    Pure w (4 * t.dep + (2 * W.dep + 20)) P (call (.ref 565) [v,wv]) fun P' r=>DatIn P' r (fixT cn t).tell:=by
  intro c m own s Q E S hdp hu ret
  have X:=S.X
  refine ex9 (tell_in hv) ?_;intro b e kt vo o eo k ek kv hy9;refine an6 hy9 ?_;clear hy9;intro hx8 hb ho hvo hk hkv
  symm at hx8;subst hx8
  refine wpAny_call ?_
  refine enterC2 (K:=hd.heap_39 _) (vals:=[some (.ref b)]) (clf:=fun L'=>[(Str.ofString "_law_names",L' + 1 + 1),(Str.ofString "_law_whole",L' + 1)]) (Out:=fun cs P' r=>cs = own∧DatIn P' r (fixT cn t).tell) rfl S (by k_is) (by k_is) (by lia) (by exact BindsTo.of_eq rfl) (by kernel_rfl) (by decide +kernel) (by kernel_rfl) (by exact fun _=>rfl) (fun L'=>by simp) ?a4 ?a5 ?a6
  case a4 =>
    intro L'
    dsimp only [List.map,List.zip,List.zipWith]
    rw [bindL_loc (by kernel_rfl),bindL_cell (by kernel_rfl),bindL_nil]
    funext y
    simp only [asg,asg_nil]
  case a6 =>
    intro r own' P' s' S' hc hs hx10
    refine an2 hx10 ?_;clear hx10;intro hx11 ho
    symm at hx11;subst hx11
    exact ret r P' s' S' hs ho
  intro c' s' cc gN hd' hu' hcc S'
  refine ex2 (hcc.two) ?_;intro oN oW hy13;refine an3 hy13 ?_;clear hy13;intro hx12 hcN hcW
  symm at hx12;subst hx12
  have hN0:oN.data = .cell none:=hcN.trans (by exact rfl)
  have hWd:oW.data = .cell (some wv):=hcW.trans (by exact rfl)
  clear hcN hcW hcc ret S
  have e0:t.size≤1990:=hok.sz
  dsimp only [List.cons_append,List.nil_append] at S'
  have S2:=(S'.perm (List.Perm.swap _ _ _)).settle
  clear S'
  have e2:∀ d∈t.kids,4 * d.dep + (2 * W.dep + 20) + 4≤4 * t.dep + (2 * W.dep + 20):=fun d hd=>by have:=dep_kid hd;lia
  have e3:∀ d∈t.kids,c'.A.depth + (4 * d.dep + (2 * W.dep + 20)) < recursionLimit:=fun d hd=>by have:=e2 d hd;lia
  have e4:∀ d∈t.kids,c'.A.units + 8 * (4 * d.dep + (2 * W.dep + 20)) < cLine:=fun d hd=>by have:=e2 d hd;lia
  have hkl:kv.length = t.kids.length:=by rw [dall_len hkv,tells_map,List.length_map]
  have hkz:=len_kids t
  try refine (by assumption:Nxt _ _ _ _ _ _ _) _ ?_
  (refine eN ?_;intro _ _ _)
  refine Assign_Tuple_swapped ?_ (by k_dflt rfl) (by k_dflt rfl)
  with_reducible (refine Tuple_ ?_;refine sp1 ?_ (by k_dflt rfl);refine subT ‹_› ‹_› LocV.a0 (by k_mem) (by k_dflt rfl) (by k_dflt rfl) (by k_dflt rfl) (by k_dflt exact fun _=>rfl) ?_;intro _ _;refine sp1 ?_ (by k_dflt rfl);refine subT ‹_› ‹_› LocV.a0 (by k_mem) (by k_dflt rfl) (by k_dflt rfl) (by k_dflt rfl) (by k_dflt exact fun _=>rfl) ?_;intro _ _;refine sp1 ?_ (by k_dflt rfl);refine callT (x:=Str.ofString "tuple") ‹_› ‹_› (gn_tuple _) bt_tuple bt_ne_tuple mm19 ?_ (by k_dflt rfl))
  refine comp_evalS ‹_› (by decide) (by k_dflt rfl) (by decide) (by k_dflt rfl) (by decide) (by k_dflt exact fun _=>rfl) ?_
  with_reducible (refine subT ‹_› ‹_› LocV.a0 (by k_mem) (by k_dflt rfl) (by k_dflt rfl) (by k_dflt rfl) (by k_dflt exact fun _=>rfl) ?_;intro _ _)
  refine compT (vs:=kv) ‹_› (by k_mem) (by lia) rfl (by kernel_rfl) (fun i own₁ P₁ ys=>own₁ = (c'.L + 1 + 1,oN)::own∧(∀ p∈(c'.L + 1,oW)::P,p∈P₁)∧DatAll P₁ ys (tells ((t.kids.take i).map (fixT cn)))) ⟨rfl,fun _ h=>h,.nil⟩ ?_ ?_
  ·
    intro i own₁ P₁ P₁' tl C oC m₂ ys s₂ E' hi hx14 hG hC htl S hs
    refine an3 hx14 ?_;clear hx14;intro hx15 hP2 hys
    symm at hx15;subst hx15
    obtain ⟨v,hv1⟩:∃ v,kv[i]? = some v:=⟨kv[i],by simp [hi]⟩
    refine ex1 (dall_get hkv hv1) ?_;intro d hy16;refine an2 hy16 ?_;clear hy16;intro hd hvd
    refine ex1 (tells_get hd) ?_;intro kt hy18;refine an2 hy18 ?_;clear hy18;intro hkt hx17
    symm at hx17;subst hx17
    rw [hv1] at hG
    have to2:∀ p∈P,p∈P₁':=fun p hp=>hs _ (hP2 _ (.tail _ hp))
    show wpAny _ _ _ _ _ _
    refine ccall2 (x:=Str.ofString "_law_due_of") S (g_law_due_of _) (kp_law_due_of _) ?_ rfl rfl (by kernel_rfl) (by k_dflt rfl) (by k_dflt rfl)
    refine cv_loc S (List.mem_append_right _ htl) hC hG ?_ rfl (by kernel_rfl)
    refine cv_cell S (by k_dflt rfl) (hs _ (hP2 _ (.head _))) hWd ?_ rfl (by kernel_rfl)
    refine ⟨S.kin,?_⟩
    refine useP (IH kt (List.mem_of_getElem? hkt) v _ (hvd.mono to2) (hwv.mono to2)) S (e3 _ (List.mem_of_getElem? hkt)) (e4 _ (List.mem_of_getElem? hkt)) ?_
    rintro r P3 s3 S3 hs3 hr
    refine mk2 _ P3 ⟨S3,hs3,rfl,fun p hp=>hs3 _ (hs _ (hP2 _ hp)),?_⟩
    rw [List.take_add_one,hkt,List.map_append,tells_append]
    exact (hys.mono fun p hp=>hs3 _ (hs _ hp)).append (.cons hr .nil)
  intro own' P2 ys D hx19 s2 S3
  refine an3 hx19 ?_;clear hx19;intro hx20 hP2 hys
  symm at hx20;subst hx20
  rw [hkl,List.take_length] at hys
  have hkl2:ys.length = t.kids.length:=by rw [dall_len hys,tells_map,List.length_map,List.length_map]
  refine tuple_of ‹_› (.head _) (by lia) ?_
  intro Lp s3 S4
  with_reducible (refine sp0 ?_;refine nt ‹_› ?_ sl3;intro _ _ _)
  refine unp3 ‹_› (by k_mem) ?_
  intro s4 S5
  refine assignInOrder_cons (wpAny_bindName ?_)
  with_reducible (refine st_loc ‹_› ‹_› ?_;refine SetQ.i (SetL.there (SetL.thereN (SetL.thereN (SetL.thereN (SetL.hereN))))) ?_;intro _ _)
  refine assignInOrder_cons (wpAny_bindName ?_)
  with_reducible (refine st_loc ‹_› ‹_› ?_;refine SetQ.i (SetL.a3) ?_;intro _ _)
  refine assignInOrder_cons (wpAny_bindName ?_)
  with_reducible (refine st_loc ‹_› ‹_› ?_;refine SetQ.i (SetL.a2) ?_;intro _ _)
  refine assignInOrder_nil ?_
  with_reducible (refine (by assumption:Nxt _ _ _ _ _ _ _) _ ?_;refine nameQ ?_;intro _ _;refine eN ?_;intro _ _ _;refine If_N ?_;intro _ _;refine isTrue_or ?_;refine wpAny_isTrue_Compare1 ?_ (by k_dflt rfl);refine ev_lv ‹_› ‹_› LocV.a2 ?_;refine ev_int ‹_› ?_;intro _ _ _)
  have toP2:∀ p∈P,p∈P2:=fun p hp=>hP2 _ (.tail _ hp)
  have e6:c'.A.depth + (2 * W.dep + 10) < recursionLimit:=by lia
  have e5:c'.A.units + 8 * (4 * t.dep + (2 * W.dep + 15)) < cLine:=by lia
  have fin:∀ (P':Led) (s':Shared) (m':Str→Option Value) (a:Addr) (e:Nat),St w c' m' ((c'.L + 1 + 1,oN)::own) P' s'→(∀ p∈P2,p∈P')→(a,tupOf [.int t.kind kt,.ref o,.ref Lp] e)∈P'→(Lp,tupOf ys 0)∈P'→turn cn (t.wk (t.kids.map (fixT cn))) = t.wk (t.kids.map (fixT cn)) →
      Ends w c' P (fun cs P' r=>cs.map (·.1) = own.map (·.1)∧cs = own∧DatIn P' r (fixT cn t).tell) (.ref a) s':=by
    intro P' s' m' a e S hs ha hL hT
    refine mk4 m' own [] _ ⟨by rw [List.append_nil];exact S.settle,fun p hp=>.tail _ (hs _ (toP2 _ hp)),rfl,rfl,?_⟩
    rw [fixT_eq cn t hok.noFix,hT,wk_tell t hok.noFix]
    exact .tuple (.tail _ ha) (.cons (.int _ _) (.cons (.tuple (.tail _ (hs _ (toP2 _ ho))) (hvo.mono fun p hp=>.tail _ (hs _ (toP2 _ hp)))) (.cons (.tuple (.tail _ hL) (hys.mono fun p hp=>.tail _ (hs _ hp))) .nil)))
  clear e2 e3 e4 IH hdp hu hd' hu'
  have hs2:∀ p∈P2,p∈(D,PySem.W.listOf ys.toArray ys.length)::P2:=fun p hp=>.tail _ hp
  by_cases h8:t.kind = 8
  rotate_left
  · refine ne_int_tt (by simpa using h8) ?_
    with_reducible (refine wpAny_truthy_bool ?_;refine ite_tt ?_;refine (by assumption:ImpG _ _) _ _ ?_;refine ite_tt ?_;refine eA ‹_› ?_;intro _ _ _;refine wpAny_Return_some ?_;refine Tuple_ ?_;refine sp1 ?_ (by k_dflt rfl);refine ev_lv ‹_› ‹_› LocV.a2 ?_;refine sp1 ?_ (by k_dflt rfl);refine ev_lv ‹_› ‹_› LocV.a3 ?_;refine sp1 ?_ (by k_dflt rfl);refine ev_lv ‹_› ‹_› LocV.a4 ?_;refine sp0 ?_;refine nt ‹_› ?_ sl3;intro _ _ _;refine (by assumption:Abr _ _) _ _ (by k_dflt rfl) ?_;refine (by assumption:Abr _ _) _ _ (by k_dflt rfl) ?_;refine (by assumption:Imp _ _) _ _ ?_)
    exact fin _ _ _ _ _ ‹_› (by k_places) (by k_mem) (by k_mem) (turn_not8 (by rw [wk_kind];exact h8))
  refine ex2 (kind8 h8) ?_;intro f xs hx21
  symm at hx21;subst hx21
  refine ne_int_ff (by exact rfl) ?_
  dsimp only [T.kids,List.map_cons] at hys
  refine ex2 (dall_cons hys) ?_;intro y0 yr hy23;refine an3 hy23 ?_;clear hy23;intro hx22 hy0 hyr
  symm at hx22;subst hx22
  rw [← fixTs_map] at hyr
  rw [fixTs_map] at hyr
  refine ex9 (tell_in hy0) ?_;intro b0 eb0 kt0 vo0 o0 eo0 k0 ek0 kv0 hy25;refine an6 hy25 ?_;clear hy25;intro hx24 hb0 ho0 hvo0 hk0 hkv0
  symm at hx24;subst hx24
  generalize hgf:fixT cn f = f' at *
  with_reducible (refine wpAny_truthy_bool ?_;refine ite_ff ?_;refine isTrue_or ?_;refine wpAny_isTrue_Compare1 ?_ (by k_dflt rfl);refine Subscript_ ?_;refine subT ‹_› ‹_› LocV.a4 (by k_mem) (by k_dflt rfl) (by k_dflt rfl) (by k_dflt rfl) (by k_dflt exact fun _=>rfl) ?_;intro _ _;refine ev_int ‹_› ?_;intro _ _ _;refine tup_item ‹_› (by k_mem) (by decide) (by decide) (by k_dflt rfl) ?_ (by k_dflt rfl);refine ev_glob ‹_› ‹_› (g_LAMBDA _) mm20 ?_)
  by_cases h7:f'.kind = 7
  rotate_left
  · refine ne_int_tt (by simpa using h7) ?_
    with_reducible (refine wpAny_truthy_bool ?_;refine ite_tt ?_;refine (by assumption:ImpG _ _) _ _ ?_;refine ite_tt ?_;refine eA ‹_› ?_;intro _ _ _;refine wpAny_Return_some ?_;refine Tuple_ ?_;refine sp1 ?_ (by k_dflt rfl);refine ev_lv ‹_› ‹_› LocV.a2 ?_;refine sp1 ?_ (by k_dflt rfl);refine ev_lv ‹_› ‹_› LocV.a3 ?_;refine sp1 ?_ (by k_dflt rfl);refine ev_lv ‹_› ‹_› LocV.a4 ?_;refine sp0 ?_;refine nt ‹_› ?_ sl3;intro _ _ _;refine (by assumption:Abr _ _) _ _ (by k_dflt rfl) ?_;refine (by assumption:Abr _ _) _ _ (by k_dflt rfl) ?_;refine (by assumption:Imp _ _) _ _ ?_)
    exact fin _ _ _ _ _ ‹_› (by k_places) (by k_mem) (by k_mem) (by show turn cn (.call (fixT cn f) _) = .call (fixT cn f) _;rw [hgf];exact turn_not7 h7)
  refine ex3 (kind7 h7) ?_;intro l ps bb hx26
  symm at hx26;subst hx26
  refine ne_int_ff (by exact rfl) ?_
  refine ex2 (dall_cons hvo0) ?_;intro _ _ hy28;refine an3 hy28 ?_;clear hy28;intro hx27 hd1 hd2
  symm at hx27;subst hx27
  refine ex1 (din_int hd1) ?_;intro tl hx29
  symm at hx29;subst hx29
  refine ex2 (dall_cons hd2) ?_;intro _ _ hy31;refine an3 hy31 ?_;clear hy31;intro hx30 hd3 hd4
  symm at hx30;subst hx30
  refine ex3 (din_tup hd3) ?_;intro pl pv epl hy33;refine an3 hy33 ?_;clear hy33;intro hx32 hpl hpv
  symm at hx32;subst hx32
  refine ex2 (dall_cons hd4) ?_;intro _ _ hy35;refine an3 hy35 ?_;clear hy35;intro hx34 hd5 hd6
  symm at hx34;subst hx34
  refine ex1 (din_int hd5) ?_;intro tr hx36
  symm at hx36;subst hx36
  cases dall_nil hd6
  refine ex2 (dall_cons hkv0) ?_;intro _ _ hy38;refine an3 hy38 ?_;clear hy38;intro hx37 hbb hd7
  symm at hx37;subst hx37
  cases dall_nil hd7
  clear hd1 hd2 hd3 hd4 hd5 hd6 hd7
  have hpi:=dall_ints hpv
  have hpn:=hpi.length
  have hyn:yr.length = xs.length:=by rw [dall_len hyr,tells_map,List.length_map,List.length_map]
  have hxz:xs.length≤1990:=by
    have:=len_sizes xs
    simp only [T.size] at e0;lia
  have hpz:ps.length≤4000:=by
    have h1:=size_fixT cn f
    rw [hgf] at h1
    simp only [T.size] at h1 e0;lia
  with_reducible (refine wpAny_truthy_bool ?_;refine ite_ff ?_;refine isTrue_or ?_;refine wpAny_isTrue_Compare1 ?_ (by k_dflt rfl);refine callB1 (x:=Str.ofString "len") ‹_› ‹_› (gn_len _) bt_len bt_ne_len mm21 ?_ (by k_dflt rfl);refine Subscript_ ?_;refine Subscript_ ?_;refine subT ‹_› ‹_› LocV.a4 (by k_mem) (by k_dflt rfl) (by k_dflt rfl) (by k_dflt rfl) (by k_dflt exact fun _=>rfl) ?_;intro _ _;refine ev_int ‹_› ?_;intro _ _ _;refine tup_item ‹_› (by k_mem) (by decide) (by decide) (by k_dflt rfl) ?_ (by k_dflt rfl);refine ev_int ‹_› ?_;intro _ _ _;refine tup_item ‹_› (by k_mem) (by decide) (by decide) (by k_dflt rfl) ?_ (by k_dflt rfl))
  refine len_T ‹_› (by k_mem) (by lia) ?_
  intro s6 tk6 S6
  with_reducible (refine wpAny_BinOp ?_;refine callB1 (x:=Str.ofString "len") ‹_› ‹_› (gn_len _) bt_len bt_ne_len mm21 ?_ (by k_dflt rfl);refine ev_lv ‹_› ‹_› LocV.a4 ?_)
  refine len_T ‹_› (by k_mem) (by rw [List.length_cons];lia) ?_
  intro s7 tk7 S7
  with_reducible (refine ev_int ‹_› ?_;intro _ _ _;refine subS ‹_› ?_;intro _ _ _)
  have hlen2:(((Value.ref b0::yr).length:Nat):Int) - 1 = (xs.length:Int):=by rw [List.length_cons];lia
  rw [hlen2]
  by_cases hl:ps.length = xs.length
  rotate_left
  · refine ne_int_tt (by simp;lia) ?_
    with_reducible (refine wpAny_truthy_bool ?_;refine ite_tt ?_;refine (by assumption:ImpG _ _) _ _ ?_;refine ite_tt ?_;refine eA ‹_› ?_;intro _ _ _;refine wpAny_Return_some ?_;refine Tuple_ ?_;refine sp1 ?_ (by k_dflt rfl);refine ev_lv ‹_› ‹_› LocV.a2 ?_;refine sp1 ?_ (by k_dflt rfl);refine ev_lv ‹_› ‹_› LocV.a3 ?_;refine sp1 ?_ (by k_dflt rfl);refine ev_lv ‹_› ‹_› LocV.a4 ?_;refine sp0 ?_;refine nt ‹_› ?_ sl3;intro _ _ _;refine (by assumption:Abr _ _) _ _ (by k_dflt rfl) ?_;refine (by assumption:Abr _ _) _ _ (by k_dflt rfl) ?_;refine (by assumption:Imp _ _) _ _ ?_)
    exact fin _ _ _ _ _ ‹_› (by k_places) (by k_mem) (by k_mem) (by show turn cn (.call (fixT cn f) _) = .call (fixT cn f) _;rw [hgf];exact isLet_false (by simp [isLet,hl]))
  refine ne_int_ff (by simp;lia) ?_
  refine ex9 (tell_in hbb) ?_;intro b1 eb1 kt1 vo1 o1 eo1 k1 ek1 kv1 hy40;refine an6 hy40 ?_;clear hy40;intro hx39 hb1 ho1 hvo1 hk1 hkv1
  symm at hx39;subst hx39
  with_reducible (refine wpAny_truthy_bool ?_;refine ite_ff ?_;refine isTrue_or ?_;refine wpAny_isTrue_Compare1 ?_ (by k_dflt rfl);refine Subscript_ ?_;refine Subscript_ ?_;refine Subscript_ ?_;refine subT ‹_› ‹_› LocV.a4 (by k_mem) (by k_dflt rfl) (by k_dflt rfl) (by k_dflt rfl) (by k_dflt exact fun _=>rfl) ?_;intro _ _;refine ev_int ‹_› ?_;intro _ _ _;refine tup_item ‹_› (by k_mem) (by decide) (by decide) (by k_dflt rfl) ?_ (by k_dflt rfl);refine ev_int ‹_› ?_;intro _ _ _;refine tup_item ‹_› (by k_mem) (by decide) (by decide) (by k_dflt rfl) ?_ (by k_dflt rfl);refine ev_int ‹_› ?_;intro _ _ _;refine tup_item ‹_› (by k_mem) (by decide) (by decide) (by k_dflt rfl) ?_ (by k_dflt rfl);refine ev_int ‹_› ?_;intro _ _ _)
  by_cases h9:bb.kind = 9
  rotate_left
  · refine ne_int_tt (by simpa using h9) ?_
    with_reducible (refine wpAny_truthy_bool ?_;refine ite_tt ?_;refine (by assumption:ImpG _ _) _ _ ?_;refine ite_tt ?_;refine eA ‹_› ?_;intro _ _ _;refine wpAny_Return_some ?_;refine Tuple_ ?_;refine sp1 ?_ (by k_dflt rfl);refine ev_lv ‹_› ‹_› LocV.a2 ?_;refine sp1 ?_ (by k_dflt rfl);refine ev_lv ‹_› ‹_› LocV.a3 ?_;refine sp1 ?_ (by k_dflt rfl);refine ev_lv ‹_› ‹_› LocV.a4 ?_;refine sp0 ?_;refine nt ‹_› ?_ sl3;intro _ _ _;refine (by assumption:Abr _ _) _ _ (by k_dflt rfl) ?_;refine (by assumption:Abr _ _) _ _ (by k_dflt rfl) ?_;refine (by assumption:Imp _ _) _ _ ?_)
    exact fin _ _ _ _ _ ‹_› (by k_places) (by k_mem) (by k_mem) (by show turn cn (.call (fixT cn f) _) = .call (fixT cn f) _;rw [hgf];exact turn_other h9)
  refine ex1 (kind9 h9) ?_;intro items hx41
  symm at hx41;subst hx41
  refine ne_int_ff (by exact rfl) ?_
  with_reducible (refine wpAny_truthy_bool ?_;refine ite_ff ?_;refine isTrue_or_nil ?_;refine (by assumption:ImpG _ _) _ _ ?_;refine ite_ff ?_;refine wpAny_execs_nil ?_;refine (by assumption:Nxt _ _ _ _ _ _ _) _ ?_;refine eI ‹_› ?_;intro _ _ _)
  refine Assign_Tuple ?_ (by k_dflt rfl) (by k_dflt rfl)
  with_reducible (refine Subscript_ ?_;refine subT ‹_› ‹_› LocV.a4 (by k_mem) (by k_dflt rfl) (by k_dflt rfl) (by k_dflt rfl) (by k_dflt exact fun _=>rfl) ?_;intro _ _;refine ev_int ‹_› ?_;intro _ _ _;refine tup_item ‹_› (by k_mem) (by decide) (by decide) (by k_dflt rfl) ?_ (by k_dflt rfl))
  refine asgF_triple ‹_› gN (hs2 _ ho0 |> fun h=>List.mem_cons_of_mem _ (List.mem_cons_of_mem _ h)) ?_
  refine SetQ.i (SetL.there (SetL.there (SetL.there (SetL.there (SetL.there (SetL.hereN)))))) ?_
  refine SetQ.i (SetL.there (SetL.there (SetL.there (SetL.there (SetL.there (SetL.there (SetL.hereN))))))) ?_
  refine SetQ.i (SetL.there (SetL.there (SetL.there (SetL.there (SetL.there (SetL.there (SetL.there (SetL.hereN)))))))) ?_
  intro s8 S8
  with_reducible (refine (by assumption:Nxt _ _ _ _ _ _ _) _ ?_;refine eI ‹_› ?_;intro _ _ _;refine wpAny_Assign_Name ?_ (by k_dflt rfl);refine Subscript_ ?_;refine Subscript_ ?_;refine Subscript_ ?_;refine subT ‹_› ‹_› LocV.a4 (by k_mem) (by k_dflt rfl) (by k_dflt rfl) (by k_dflt rfl) (by k_dflt exact fun _=>rfl) ?_;intro _ _;refine ev_int ‹_› ?_;intro _ _ _;refine tup_item ‹_› (by k_mem) (by decide) (by decide) (by k_dflt rfl) ?_ (by k_dflt rfl);refine ev_int ‹_› ?_;intro _ _ _;refine tup_item ‹_› (by k_mem) (by decide) (by decide) (by k_dflt rfl) ?_ (by k_dflt rfl);refine ev_int ‹_› ?_;intro _ _ _;refine tup_item ‹_› (by k_mem) (by decide) (by decide) (by k_dflt rfl) ?_ (by k_dflt rfl);refine st_loc ‹_› ‹_› ?_;refine SetQ.i (SetL.there (SetL.there (SetL.there (SetL.there (SetL.there (SetL.there (SetL.there (SetL.there (SetL.hereN))))))))) ?_;intro _ _;refine (by assumption:Nxt _ _ _ _ _ _ _) _ ?_;refine eI ‹_› ?_;intro _ _ _)
  refine comp_assignS ‹_› gN (by k_dflt rfl) (by decide) (by k_dflt rfl) (by decide) (by k_dflt rfl) (by decide) (by k_dflt exact fun _=>rfl) ?_
  with_reducible (refine callT2 (x:=Str.ofString "zip") ‹_› ‹_› (gn_zip _) bt_zip bt_ne_zip mm22 ?_ (by k_dflt rfl) (by k_dflt rfl);refine ev_lv ‹_› ‹_› LocV.a6 ?_;refine Subscript_ ?_;refine ev_lv ‹_› ‹_› LocV.a4 ?_;refine wpAny_Slice ?_;refine evalPart_some_step ?_;refine ev_int ‹_› ?_;intro _ _ _;refine evalPart_none_step ?_;refine evalPart_none_step ?_)
  refine tup_from (k:=1) ‹_› (by k_mem) (by decide) (by rw [List.length_cons];lia) (by rw [List.length_cons];lia) ?_ (by k_dflt rfl) (by k_dflt exact fun _=>rfl)
  intro Ds s9 S9
  rw [show List.drop 1 (Value.ref b0::yr) = yr from rfl] at S9
  obtain ⟨P3,hP3⟩:∃ P3:Led,P3 = (Lp,tupOf (Value.ref b0::yr) 0)::P2:=⟨_,rfl⟩
  have i3:∀ p∈P2,p∈P3:=fun p hp=>by rw [hP3];exact .tail _ hp
  have i4:(Lp,tupOf (Value.ref b0::yr) 0)∈P3:=by rw [hP3];exact .head _
  refine compZT ‹_› (List.mem_cons_of_mem _ (List.mem_cons_of_mem _ (List.mem_cons_of_mem _ (hs2 _ hpl)))) (.head _) (by lia) rfl (by kernel_rfl) (by kernel_rfl) (by decide) (fun i own₁ P₁ us=>own₁ = (c'.L + 1 + 1,oN)::own∧(∀ p∈P3,p∈P₁)∧IntsAre us (lateOf (ps.take i) ((xs.map (fixT cn)).take i))) ⟨rfl,fun p hp=>by rw [hP3] at hp;rcases List.mem_cons.mp hp with rfl | hp <;> k_mem,.nil⟩ ?_ ?_
  ·
    intro i own₁ P₁ P₁' tl' C oC m₂ us s₂ E' hi hx42 hx43 hC htl S hs
    refine an3 hx42 ?_;clear hx42;intro hx44 hPi hus
    symm at hx44;subst hx44
    refine ex2 hx43 ?_;clear hx43;intro va vb hy45;refine an4 hy45 ?_;clear hy45;intro hva hvb hma hmb
    refine ex2 (hpi.at _ _ hva) ?_;intro n u hy47;refine an2 hy47 ?_;clear hy47;intro hx46 hn
    symm at hx46;subst hx46
    refine ex1 (dall_get hyr hvb) ?_;intro d hy48;refine an2 hy48 ?_;clear hy48;intro hd hvd
    refine ex1 (tells_get hd) ?_;intro x hy50;refine an2 hy50 ?_;clear hy50;intro hx hx49
    symm at hx49;subst hx49
    have to3:∀ p∈P2,p∈P₁':=fun p hp=>hs _ (hPi _ (i3 _ hp))
    have hxm:=List.mem_of_getElem? hx
    refine ex1 (List.mem_map.mp hxm) ?_;intro x0 hy51;refine an2 hy51 ?_;clear hy51;intro hx0 hx1
    have hxd:2 * x.dep≤4 * (T.call f xs).dep:=by
      have h1:=dep_fixT cn x0
      have h2:x0.dep < (T.call f xs).dep:=dep_kid (List.mem_cons_of_mem _ hx0)
      rw [hx1] at h1;lia
    have hlt:lateOf (ps.take (i + 1)) ((xs.map (fixT cn)).take (i + 1)) = lateOf (ps.take i) ((xs.map (fixT cn)).take i) ++ (if x.isUn then [n] else []):=by
      rw [List.take_add_one,List.take_add_one,hn,hx,Option.toList_some,Option.toList_some,lateOf_snoc (by rw [List.length_take,List.length_take,List.length_map,hl])]
    show wpAny _ _ _ _ _ _
    refine wpAny_isTrue_Compare1 ?_ (by k_dflt rfl)
    refine cv_loc S (List.mem_append_right _ htl) hC hmb ?_ rfl (by kernel_rfl)
    refine Tuple_ ?_
    with_reducible (refine sp1 ?_ (by k_dflt rfl))
    refine cv_glob S (g_CONST _) ?_ rfl rfl (by kernel_rfl)
    with_reducible (refine sp1 ?_ (by k_dflt rfl);refine Tuple_ ?_;refine sp1 ?_ (by k_dflt rfl);refine ev_str ‹_› ?_;intro _ _ _;refine sp0 ?_;refine nt ‹_› ?_ sl1;intro _ _ _;refine sp1 ?_ (by k_dflt rfl);refine Tuple_ ?_;refine sp0 ?_;refine nt ‹_› ?_ sl0;intro _ _ _;refine sp0 ?_;refine nt ‹_› ?_ sl3;intro _ _ _)
    refine eqDat (P₂:=_) (4 * (T.call f xs).dep + 2) 3 ‹_› (hvd.mono to3) (by k_places) (.tuple (.head _) (.cons (.int _ _) (.cons (.tuple (.tail _ (.tail _ (.head _))) (.cons (.str _ _) .nil)) (.cons (.tuple (.tail _ (.head _)) .nil) .nil)))) (fun _ h=>h) (kqd_tell x _ hxd) (by decide +kernel) (by lia) ?_
    intro bb hbb
    rw [tell_un] at hbb
    with_reducible (refine wpAny_truthy_bool ?_)
    refine ifB (fun hb=>?_) (fun hb=>?_)
    · rw [if_pos (hbb.mp hb)] at hlt
      refine cv_loc ‹_› (List.mem_append_right _ htl) hC hma ?_ rfl (by kernel_rfl)
      refine mk2 _ _ ⟨‹_›,?_,rfl,?_,?_⟩
      · k_places
      · intro p hp
        have:=hs _ (hPi _ hp)
        k_mem
      · rw [hlt];exact hus.append (.cons _ _ .nil)
    · rw [if_neg (fun h=>by rw [hbb.mpr h] at hb;cases hb),List.append_nil] at hlt
      refine mk2 _ _ ⟨‹_›,?_,rfl,?_,?_⟩
      · k_places
      · intro p hp
        have:=hs _ (hPi _ hp)
        k_mem
      · rw [hlt];simpa using hus
  intro own' P4 us D4 hx52
  refine an3 hx52 ?_;clear hx52;intro hx53 hP4 hus
  symm at hx53;subst hx53
  have hmin:min pv.length yr.length = min ps.length (xs.map (fixT cn)).length:=by rw [hpn,hyn,List.length_map]
  have hLo:lateOf (ps.take (min pv.length yr.length)) ((xs.map (fixT cn)).take (min pv.length yr.length)) = lateOf ps (xs.map (fixT cn)):=by
    rw [hmin];unfold lateOf;rw [zip_min]
  rw [hLo] at hus
  refine SetQ.i (SetL.there (SetL.there (SetL.there (SetL.there (SetL.there (SetL.there (SetL.there (SetL.there (SetL.there (SetL.thereN (SetL.hereN))))))))))) ?_
  intro s10 S10
  try dsimp only
  with_reducible (refine (by assumption:Nxt _ _ _ _ _ _ _) _ ?_;refine eI ‹_› ?_;intro _ _ _)
  refine Assign_Tuple_swapped ?_ (by k_dflt rfl) (by k_dflt rfl)
  have flag:OwnFlag:=⟨trivial⟩
  with_reducible (refine Tuple_ ?_;refine sp1 ?_ (by k_dflt rfl);refine List_ ?_;refine sp0 ?_;refine nl_flag ‹_› ‹_› ?_ sl0;intro _ _ _;refine sp1 ?_ (by k_dflt rfl);refine List_ ?_;refine sp0 ?_;refine nl_flag ‹_› ‹_› ?_ sl0;intro _ _ _;refine sp1 ?_ (by k_dflt rfl);refine ev_int ‹_› ?_;intro _ _ _;refine sp0 ?_;refine nt ‹_› ?_ sl3;intro _ _ _)
  clear flag
  refine unp3 ‹_› (by k_mem) ?_
  intro s11 S11
  refine assignInOrder_cons (wpAny_bindName ?_)
  with_reducible (refine st_loc ‹_› ‹_› ?_;refine SetQ.i (SetL.there (SetL.there (SetL.there (SetL.there (SetL.there (SetL.there (SetL.there (SetL.there (SetL.there (SetL.there (SetL.there (SetL.thereN (SetL.thereN (SetL.hereN)))))))))))))) ?_;intro _ _)
  refine assignInOrder_cons (wpAny_bindName ?_)
  with_reducible (refine st_loc ‹_› ‹_› ?_;refine SetQ.i (SetL.a12) ?_;intro _ _)
  refine assignInOrder_cons (wpAny_bindName ?_)
  with_reducible (refine st_loc ‹_› ‹_› ?_;refine SetQ.i (SetL.a11) ?_;intro _ _)
  refine assignInOrder_nil ?_
  with_reducible (refine (by assumption:Nxt _ _ _ _ _ _ _) _ ?_;refine eI ‹_› ?_;intro _ _ _)
  rename_i Tk _ _ Lf _ _ _ tk0 _ lt _ _ _ _ _ _ _ S12 _ _ _
  have hk1n:kv1.length = items.length:=by rw [dall_len hkv1];show (tells items).length = _;rw [tells_map,List.length_map]
  have hil:items.length≤4000:=by
    have h1:=size_fixT cn f
    have h2:=len_sizes items
    rw [hgf] at h1
    simp only [T.size] at h1 e0;lia
  generalize hLt:lateOf ps (xs.map (fixT cn)) = late at hus
  obtain ⟨P5,hP5⟩:∃ P5:Led,P5 = (lt,tupOf [Value.ref Tk,Value.ref Lf,Value.int 0 tk0] 0)::(D4,LCg.lst us)::P4:=⟨_,rfl⟩
  rw [← hP5] at S12
  have i5:∀ p∈P3,p∈P5:=fun p hp=>by rw [hP5];exact .tail _ (.tail _ (hP4 _ hp))
  have hD4:(D4,listOf us.toArray us.length)∈P5:=by rw [hP5];exact .tail _ (.head _)
  clear hlen2 S10 S11 S9 S8 S7 S6 S5 S4 S3 S2
  refine cutN gN (fun ns fl s'=>fl = .next∧∃ tki it1 it2 tv lv et el P6,(∀ p∈P5,p∈P6)∧St w c' (asg ns [some (.ref b),none,some (.int (T.call f xs).kind kt),some (.ref o),some (.ref Lp),some (.int l tl),some (.ref pl),some (.int (-1) tr),some (.ref k1),it1,some (.ref D4),some (.ref Tk),some (.ref Lf),some (.int (((early items).length:Nat):Int) tki),it2]) ((Lf,listOf (lv:List Value).toArray el)::(Tk,listOf (tv:List Value).toArray et)::(c'.L + 1 + 1,oN)::own) P6 s' ∧
    All2 (TkR P6) tv ((early items).filter (tkn cn late))∧All2 (fun v t=>DatIn P6 v t.tell) lv ((early items).filter fun t=>!tkn cn late t)) ?_ ?_
  ·
    intro Qm hqm
    refine whileR (fun k s=>∃ i tki it1 it2 tv lv et el P6,k = items.length - i∧i≤(early items).length∧(∀ p∈P5,p∈P6)∧St w c' (asg _ [some (.ref b),none,some (.int (T.call f xs).kind kt),some (.ref o),some (.ref Lp),some (.int l tl),some (.ref pl),some (.int (-1) tr),some (.ref k1),it1,some (.ref D4),some (.ref Tk),some (.ref Lf),some (.int ((i:Nat):Int) tki),it2]) ((Lf,listOf (lv:List Value).toArray el)::(Tk,listOf (tv:List Value).toArray et)::(c'.L + 1 + 1,oN)::own) P6 s ∧
      All2 (TkR P6) tv ((items.take i).filter (tkn cn late))∧All2 (fun v t=>DatIn P6 v t.tell) lv ((items.take i).filter fun t=>!tkn cn late t)∧tv.length≤i∧lv.length≤i) ?_ items.length _
      (mk9 0 tk0 none none [] [] 0 0 P5 ⟨rfl,Nat.zero_le _,fun _ h=>h,St.pad 1 (vs:=[some (.ref b),none,some (.int (T.call f xs).kind kt),some (.ref o),some (.ref Lp),some (.int l tl),some (.ref pl),some (.int (-1) tr),some (.ref k1),none,some (.ref D4),some (.ref Tk),some (.ref Lf),some (.int 0 tk0)]) S12,.nil,.nil,Nat.le_refl _,Nat.le_refl _⟩)
    clear S12
    intro k s3 Qz hqz hx54
    refine ex9 hx54 ?_;clear hx54;intro i tki it1 it2 tv lv et el P6 hy56;refine an8 hy56 ?_;clear hy56;intro hx55 hie hP6 S13 htv hlv htn hln
    symm at hx55;subst hx55
    have to6:∀ p∈P2,p∈P6:=fun p hp=>hP6 _ (i5 _ (i3 _ hp))
    have hk1':=to6 _ hk1
    with_reducible (refine isTrue_and ?_;refine wpAny_isTrue_Compare1 ?_ (by k_dflt rfl);refine ev_lv ‹_› ‹_› LocV.a13 ?_;refine wpAny_BinOp ?_;refine callB1 (x:=Str.ofString "len") ‹_› ‹_› (gn_len _) bt_len bt_ne_len mm21 ?_ (by k_dflt rfl);refine ev_lv ‹_› ‹_› LocV.a8 ?_)
    refine len_T ‹_› hk1' (by lia) ?_
    intro s4 tk4 S4
    with_reducible (refine ev_int ‹_› ?_;intro _ _ _;refine subS ‹_› ?_;intro _ _ _;refine PySem.P.lt_int ?_;refine wpAny_truthy_bool ?_)
    refine ifB (fun hb=>?_) (fun hb=>?_)
    rotate_left
    · have hei:=early_end hie (by have:=of_decide_eq_false hb;lia)
      with_reducible (refine (by assumption:ImpG _ _) _ _ ?_;refine ite_ff ?_;refine wpAny_execs_nil ?_;refine (by assumption:Imp _ _) _ _ ?_)
      exact ⟨rfl,mk8 _ _ _ _ _ _ _ P6 ⟨hP6,by rw [← hei];assumption,by rw [hei,← early_take] at htv;exact htv,by rw [hei,← early_take] at hlv;exact hlv⟩⟩
    have hilt:(i:Int) < (items.length:Int) - 1:=by have:=of_decide_eq_true hb;lia
    obtain ⟨v,hv1⟩:∃ v,kv1[i]? = some v:=⟨kv1[i]'(by lia),by simp⟩
    refine ex1 (dall_get hkv1 hv1) ?_;intro d hy57;refine an2 hy57 ?_;clear hy57;intro hd hvd
    refine ex1 (tells_get (ts:=items) hd) ?_;intro t hy59;refine an2 hy59 ?_;clear hy59;intro ht hx58
    symm at hx58;subst hx58
    refine ex9 (tell_in hvd) ?_;intro br er ktr vor or' eor kr ekr kvr hy61;refine an6 hy61 ?_;clear hy61;intro hx60 hbr hor hvor hkr hkvr
    symm at hx60;subst hx60
    have hbr':=to6 _ hbr
    have hor':=to6 _ hor
    have hkr':=to6 _ hkr
    with_reducible (refine isTrue_and ?_;refine wpAny_isTrue_Compare1 ?_ (by k_dflt rfl);refine Subscript_ ?_;refine Subscript_ ?_;refine ev_lv ‹_› ‹_› LocV.a8 ?_;refine ev_lv ‹_› ‹_› LocV.a13 ?_)
    refine tup_item ‹_› hk1' (by lia) (by lia) (by simpa using hv1) ?_ (by k_dflt rfl)
    with_reducible (refine ev_int ‹_› ?_;intro _ _ _;refine tup_item ‹_› (by k_mem) (by decide) (by decide) (by k_dflt rfl) ?_ (by k_dflt rfl);refine ev_glob ‹_› ‹_› (g_SET_LOCAL _) mm23 ?_;refine eq_int ?_;refine wpAny_truthy_bool ?_)
    refine ifB (fun hb2=>?_) (fun hb2=>?_)
    rotate_left
    · have hei:=early_stop hie ht (isE_ne3 (by simpa using hb2))
      with_reducible (refine (by assumption:ImpG _ _) _ _ ?_;refine ite_ff ?_;refine wpAny_execs_nil ?_;refine (by assumption:Imp _ _) _ _ ?_)
      exact ⟨rfl,mk8 _ _ _ _ _ _ _ P6 ⟨hP6,by rw [← hei];assumption,by rw [hei,← early_take] at htv;exact htv,by rw [hei,← early_take] at hlv;exact hlv⟩⟩
    refine ex2 (kind3 (eq_of_beq hb2)) ?_;intro n tv0 hx62
    symm at hx62;subst hx62
    refine ex2 (dall_cons hkvr) ?_;intro _ _ hy64;refine an3 hy64 ?_;clear hy64;intro hx63 hvv hd7
    symm at hx63;subst hx63
    cases dall_nil hd7
    clear hd7
    refine ex2 (dall_cons hvor) ?_;intro _ _ hy66;refine an3 hy66 ?_;clear hy66;intro hx65 hnn hd7
    symm at hx65;subst hx65
    cases dall_nil hd7
    clear hd7
    refine ex1 (din_int hnn) ?_;intro un hx67
    symm at hx67;subst hx67
    refine ex9 (tell_in hvv) ?_;intro bv ev ktv vov ov eov kv2 ekv2 kvv hy69;refine an6 hy69 ?_;clear hy69;intro hx68 hbv hov hvov hkv2 hkvv
    symm at hx68;subst hx68
    have hbv':=to6 _ hbv
    with_reducible (refine isTrue_and ?_;refine wpAny_isTrue_Compare1 ?_ (by k_dflt rfl);refine Subscript_ ?_;refine Subscript_ ?_;refine Subscript_ ?_;refine Subscript_ ?_;refine ev_lv ‹_› ‹_› LocV.a8 ?_;refine ev_lv ‹_› ‹_› LocV.a13 ?_)
    refine tup_item ‹_› hk1' (by lia) (by lia) (by simpa using hv1) ?_ (by k_dflt rfl)
    with_reducible (refine ev_int ‹_› ?_;intro _ _ _;refine tup_item ‹_› (by k_mem) (by decide) (by decide) (by k_dflt rfl) ?_ (by k_dflt rfl);refine ev_int ‹_› ?_;intro _ _ _;refine tup_item ‹_› (by k_mem) (by decide) (by decide) (by k_dflt rfl) ?_ (by k_dflt rfl);refine ev_int ‹_› ?_;intro _ _ _;refine tup_item ‹_› (by k_mem) (by decide) (by decide) (by k_dflt rfl) ?_ (by k_dflt rfl);refine Tuple_ ?_;refine sp1 ?_ (by k_dflt rfl);refine ev_glob ‹_› ‹_› (g_LAMBDA _) mm20 ?_;refine sp1 ?_ (by k_dflt rfl);refine ev_glob ‹_› ‹_› (g_CONST _) mm24 ?_;refine sp0 ?_;refine nt ‹_› ?_ sl2;intro _ _ _)
    refine in_tup ‹_› (.head _) (.cons _ _ (.cons _ _ .nil)) ?_
    with_reducible (refine wpAny_truthy_bool ?_)
    rw [← isE_any n tv0]
    refine ifB (fun hb3=>?_) (fun hb3=>?_)
    rotate_left
    · have hei:=early_stop hie ht hb3
      with_reducible (refine (by assumption:ImpG _ _) _ _ ?_;refine ite_ff ?_;refine wpAny_execs_nil ?_;refine (by assumption:Imp _ _) _ _ ?_)
      exact ⟨rfl,mk8 _ _ _ _ _ _ _ _ ⟨fun p hp=>.tail _ (hP6 p hp),by rw [← hei];assumption,by rw [hei,← early_take] at htv;exact htv.mono (TkR.mono fun p hp=>.tail _ hp),by rw [hei,← early_take] at hlv;exact hlv.mono fun v t h=>h.mono fun p hp=>.tail _ hp⟩⟩
    have hie':=early_more hie hilt ht hb3
    have htk:items.take (i + 1) = items.take i ++ [.setl n tv0]:=by rw [List.take_add_one,ht];rfl
    with_reducible (refine isTrue_and_nil ?_;refine (by assumption:ImpG _ _) _ _ ?_;refine ite_tt ?_;refine nameQ ?_;intro _ _;refine eN ?_;intro _ _ _;refine wpAny_Assign_Name ?_ (by k_dflt rfl);refine Subscript_ ?_;refine Subscript_ ?_;refine Subscript_ ?_;refine ev_lv ‹_› ‹_› LocV.a8 ?_;refine ev_lv ‹_› ‹_› LocV.a13 ?_)
    refine tup_item ‹_› (.tail _ hk1') (by lia) (by lia) (by simpa using hv1) ?_ (by k_dflt rfl)
    with_reducible (refine ev_int ‹_› ?_;intro _ _ _;refine tup_item ‹_› (by k_mem) (by decide) (by decide) (by k_dflt rfl) ?_ (by k_dflt rfl);refine ev_int ‹_› ?_;intro _ _ _;refine tup_item ‹_› (by k_mem) (by decide) (by decide) (by k_dflt rfl) ?_ (by k_dflt rfl);refine st_loc ‹_› ‹_› ?_;refine SetQ.i (SetL.a9) ?_;intro _ _;refine (by assumption:Nxt _ _ _ _ _ _ _) _ ?_;refine eI ‹_› ?_;intro _ _ _;refine wpAny_Assign_Name ?_ (by k_dflt rfl))
    have hu6:IntsAre us late:=hus
    refine cutN gN (fun ns v s'=>∃ P7,v = .bool (tkn cn late (.setl n tv0))∧St w c' (asg ns [some (.ref b),none,some (.int (T.call f xs).kind kt),some (.ref o),some (.ref Lp),some (.int l tl),some (.ref pl),some (.int (-1) tr),some (.ref k1),some (.int n un),some (.ref D4),some (.ref Tk),some (.ref Lf),some (.int ((i:Nat):Int) tki),it2]) ((Lf,listOf lv.toArray el)::(Tk,listOf tv.toArray et)::(c'.L + 1 + 1,oN)::own) P7 s'∧(∀ p∈P6,p∈P7)) ?_ ?_
    · intro Qm hqm
      with_reducible (refine BoolOp_and ?_;refine wpAny_Compare1 ?_ (by k_dflt rfl);refine Subscript_ ?_;refine Subscript_ ?_;refine Subscript_ ?_;refine Subscript_ ?_;refine ev_lv ‹_› ‹_› LocV.a8 ?_;refine ev_lv ‹_› ‹_› LocV.a13 ?_)
      refine tup_item ‹_› (.tail _ hk1') (by lia) (by lia) (by simpa using hv1) ?_ (by k_dflt rfl)
      with_reducible (refine ev_int ‹_› ?_;intro _ _ _;refine tup_item ‹_› (by k_mem) (by decide) (by decide) (by k_dflt rfl) ?_ (by k_dflt rfl);refine ev_int ‹_› ?_;intro _ _ _;refine tup_item ‹_› (by k_mem) (by decide) (by decide) (by k_dflt rfl) ?_ (by k_dflt rfl);refine ev_int ‹_› ?_;intro _ _ _;refine tup_item ‹_› (by k_mem) (by decide) (by decide) (by k_dflt rfl) ?_ (by k_dflt rfl);refine ev_glob ‹_› ‹_› (g_LAMBDA _) mm20 ?_;refine eq_int ?_;refine wpAny_truthy_bool ?_)
      refine ifB (fun hb4=>?_) (fun hb4=>?_)
      rotate_left
      · with_reducible (refine (by assumption:ImpG _ _) _ _ ?_)
        exact mk1 _ ⟨by simp only [tkn,isLam,hb4,Bool.false_and],by assumption,by k_places⟩
      with_reducible (refine BoolOp_and ?_;refine wpAny_Compare1 ?_ (by k_dflt rfl);refine ev_lv ‹_› ‹_› LocV.a9 ?_;refine ev_lv ‹_› ‹_› LocV.a10 ?_)
      refine PyProof.Rows.in_list_ints (St.isListP ‹_› (.tail _ (hP6 _ hD4))) hu6 ?_
      rw [any_contains]
      with_reducible (refine wpAny_truthy_bool ?_)
      refine ifB (fun hb5=>?_) (fun hb5=>?_)
      rotate_left
      · with_reducible (refine (by assumption:ImpG _ _) _ _ ?_)
        exact mk1 _ ⟨by simp only [tkn,isLam,hb4,hb5,Bool.false_and,Bool.true_and],by assumption,by k_places⟩
      have hcW:(c'.L + 1,oW)∈P6:=hP6 _ (i5 _ (i3 _ (hP2 _ (.head _))))
      with_reducible (refine BoolOp_one ?_;refine wpAny_Compare1 ?_ (by k_dflt rfl);refine call2 ‹_› ‹_› (g_law_times_set _) (kp_law_times_set _) mm25 ?_ (by k_dflt rfl) (by k_dflt rfl);refine ev_cell ‹_› ‹_› (by k_dflt rfl) (by k_mem) ‹_› mm1 ?_;refine ev_lv ‹_› ‹_› LocV.a9 ?_;refine And.intro (St.kin ‹_›) ?_)
      refine useP (times_set W wv n un (hwv.mono fun p hp=>.tail _ (to6 _ (toP2 _ hp))) hW) ‹_› (by lia) (by lia) ?_
      intro r P8 s8 S8 hs8 hx70
      refine ex1 hx70 ?_;clear hx70;intro tkc hx71
      symm at hx71;subst hx71
      rw [← hcn n]
      with_reducible (refine ev_int ‹_› ?_;intro _ _ _;refine eq_int ?_;refine (by assumption:ImpG _ _) _ _ ?_)
      have e1:(((cn n:Nat):Int) == 1) = (cn n == 1):=natbeq (cn n) 1
      rw [e1]
      exact mk1 P8 ⟨by simp only [tkn,isLam,hb4,hb5,Bool.true_and],by assumption,fun p hp=>hs8 _ (.tail _ hp)⟩
    intro v s4 hx72
    refine ex1 hx72 ?_;clear hx72;intro P7 hy74;refine an3 hy74 ?_;clear hy74;intro hx73 S14 hP7
    symm at hx73;subst hx73
    have to7:∀ p∈P2,p∈P7:=fun p hp=>hP7 _ (to6 _ hp)
    have hk17:=to7 _ hk1
    have hbr7:=to7 _ hbr
    have hkr7:=to7 _ hkr
    have htv7:=htv.mono (TkR.mono hP7)
    have hlv7:All2 (fun v t=>DatIn P7 v t.tell) lv ((items.take i).filter fun t=>!tkn cn late t):=hlv.mono fun v t h=>h.mono hP7
    with_reducible (refine st_loc ‹_› ‹_› ?_;refine SetQ.i (SetL.a14) ?_;intro _ _;refine (by assumption:Nxt _ _ _ _ _ _ _) _ ?_;refine eI ‹_› ?_;intro _ _ _;refine If_N ?_;intro _ _;refine isTrue_plain ?_ (by k_dflt rfl);refine ev_lv ‹_› ‹_› LocV.a14 ?_;refine wpAny_truthy_bool ?_;refine (by assumption:ImpG _ _) _ _ ?_)
    refine ifB (fun hb4=>?_) (fun hb4=>?_)
    · with_reducible (refine eA ‹_› ?_;intro _ _ _;refine wpAny_Expr_any ?_ (by k_dflt rfl) (by k_dflt rfl);refine MethodCall_ ?_ (by k_dflt rfl);refine ev_lv ‹_› ‹_› LocV.a11 ?_;refine lmeth ‹_› (by k_mem) PySem.F.slot_list_append PySem.F.type_list_append ?_;refine callWith_method1 ?_ (by k_dflt rfl) (by k_dflt rfl);refine sp1 ?_ (by k_dflt rfl);refine Tuple_ ?_;refine sp1 ?_ (by k_dflt rfl);refine ev_lv ‹_› ‹_› LocV.a9 ?_;refine sp1 ?_ (by k_dflt rfl);refine Subscript_ ?_;refine Subscript_ ?_;refine Subscript_ ?_;refine ev_lv ‹_› ‹_› LocV.a8 ?_;refine ev_lv ‹_› ‹_› LocV.a13 ?_)
      refine tup_item ‹_› hk17 (by lia) (by lia) (by simpa using hv1) ?_ (by k_dflt rfl)
      with_reducible (refine ev_int ‹_› ?_;intro _ _ _;refine tup_item ‹_› (by k_mem) (by decide) (by decide) (by k_dflt rfl) ?_ (by k_dflt rfl);refine ev_int ‹_› ?_;intro _ _ _;refine tup_item ‹_› (by k_mem) (by decide) (by decide) (by k_dflt rfl) ?_ (by k_dflt rfl);refine sp0 ?_;refine nt ‹_› ?_ sl2;intro _ _ _;refine sp0 ?_)
      refine app (St.perm (own':=_::_::_::own) ‹_› (List.Perm.swap _ _ _)) (fits_le (by lia)) ?_
      intro s11 S11
      have S12:=S11.perm (own':=_::_::_::own) (List.Perm.swap _ _ _)
      with_reducible (refine (by assumption:Nxt _ _ _ _ _ _ _) _ ?_;refine wpAny_execs_nil ?_;refine (by assumption:Nxt _ _ _ _ _ _ _) _ ?_;refine eI ‹_› ?_;intro _ _ _;refine wpAny_Assign_Name ?_ (by k_dflt rfl);refine wpAny_BinOp ?_;refine ev_lv ‹_› ‹_› LocV.a13 ?_;refine ev_int ‹_› ?_;intro _ _ _;refine addS ‹_› ?_;intro _ _ _;refine st_loc ‹_› ‹_› ?_;refine SetQ.i (SetL.a13) ?_;intro _ _;refine (by assumption:Nxt _ _ _ _ _ _ _) _ ?_;refine wpAny_execs_nil ?_;refine (by assumption:Imp _ _) _ _ ?_)
      refine mk1 _ ⟨Nat.sub_lt_sub_left (by lia) (Nat.lt_succ_self i),mk9 (i + 1) _ _ _ _ _ _ _ _ ⟨rfl,hie',fun p hp=>.tail _ (hP7 _ (hP6 _ hp)),by assumption,?_,?_,by simpa using htn,by lia⟩⟩
      · rw [htk,List.filter_append]
        simp only [List.filter_cons,hb4,if_true,List.filter_nil]
        exact (htv7.mono (TkR.mono fun p hp=>.tail _ hp)).snoc (mk4 _ _ _ _ ⟨rfl,.head _,hvv.mono fun p hp=>.tail _ (to7 _ hp)⟩)
      · rw [htk,List.filter_append]
        simp only [List.filter_cons,hb4,Bool.not_true,Bool.false_eq_true,if_false,List.filter_nil,List.append_nil]
        exact hlv7.mono fun v t h=>h.mono fun p hp=>.tail _ hp
    · with_reducible (refine eA ‹_› ?_;intro _ _ _;refine wpAny_Expr_any ?_ (by k_dflt rfl) (by k_dflt rfl);refine MethodCall_ ?_ (by k_dflt rfl);refine ev_lv ‹_› ‹_› LocV.a12 ?_;refine lmeth ‹_› (by k_mem) PySem.F.slot_list_append PySem.F.type_list_append ?_;refine callWith_method1 ?_ (by k_dflt rfl) (by k_dflt rfl);refine sp1 ?_ (by k_dflt rfl);refine Subscript_ ?_;refine ev_lv ‹_› ‹_› LocV.a8 ?_;refine ev_lv ‹_› ‹_› LocV.a13 ?_)
      refine tup_item ‹_› hk17 (by lia) (by lia) (by simpa using hv1) ?_ (by k_dflt rfl)
      with_reducible (refine sp0 ?_)
      refine app ‹_› (fits_le (by lia)) ?_
      intro s11 S11
      with_reducible (refine (by assumption:Nxt _ _ _ _ _ _ _) _ ?_;refine wpAny_execs_nil ?_;refine (by assumption:Nxt _ _ _ _ _ _ _) _ ?_;refine eI ‹_› ?_;intro _ _ _;refine wpAny_Assign_Name ?_ (by k_dflt rfl);refine wpAny_BinOp ?_;refine ev_lv ‹_› ‹_› LocV.a13 ?_;refine ev_int ‹_› ?_;intro _ _ _;refine addS ‹_› ?_;intro _ _ _;refine st_loc ‹_› ‹_› ?_;refine SetQ.i (SetL.a13) ?_;intro _ _;refine (by assumption:Nxt _ _ _ _ _ _ _) _ ?_;refine wpAny_execs_nil ?_;refine (by assumption:Imp _ _) _ _ ?_)
      refine mk1 _ ⟨Nat.sub_lt_sub_left (by lia) (Nat.lt_succ_self i),mk9 (i + 1) _ _ _ _ _ _ _ P7 ⟨rfl,hie',fun p hp=>hP7 _ (hP6 _ hp),by assumption,?_,?_,by lia,by simpa using hln⟩⟩
      · rw [htk,List.filter_append]
        simp only [List.filter_cons,hb4,Bool.false_eq_true,if_false,List.filter_nil,List.append_nil]
        exact htv7
      · rw [htk,List.filter_append]
        simp only [List.filter_cons,hb4,Bool.not_false,if_true,List.filter_nil]
        have hvd7:DatIn P7 (Value.ref br) (T.setl n tv0).tell:=DatIn.mono to7 hvd
        exact All2.snoc (R:=fun v (t:T)=>DatIn P7 v t.tell) hvd7 hlv7
  intro fl s3 hx75
  refine an2 hx75 ?_;clear hx75;intro hx76 hz77;refine ex8 hz77 ?_;clear hz77;intro tki it1 it2 tv lv et el P6 hy78;refine an4 hy78 ?_;clear hy78;intro hP6 S13 htv hlv
  symm at hx76;subst hx76
  have to6:∀ p∈P2,p∈P6:=fun p hp=>hP6 _ (i5 _ (i3 _ hp))
  have hBB:∀ t∈items,2 * t.dep≤4 * (T.call f xs).dep:=fun t ht=>by
    have h1:=dep_fixT cn f
    rw [hgf] at h1
    have h2:=dep_mem ht
    have h3:f.dep < (T.call f xs).dep:=dep_kid (List.mem_cons_self)
    simp only [T.dep] at h1 h3 ⊢;lia
  have hsub:∀ t∈early items,t∈items:=fun t ht=>by have:=early_split items;rw [← this];exact List.mem_append_left _ ht
  have ht1:turn cn (.call (.lam l ps (.seq items)) (xs.map (fixT cn))) = turnL cn l ps items (xs.map (fixT cn)):=by
    show (if ps.length = (xs.map (fixT cn)).length then _ else _) = _
    rw [List.length_map,if_pos hl]
  have hel:(early items).length≤4000:=Nat.le_trans (early_len items) (by lia)
  obtain ⟨tk,htk⟩:∃ tk,tk = (early items).filter (tkn cn late):=⟨_,rfl⟩
  obtain ⟨rs,hrs⟩:∃ rs,rs = (early items).filter fun t=>!tkn cn late t:=⟨_,rfl⟩
  rw [← htk] at htv
  rw [← hrs] at hlv
  have htm:∀ t∈tk,t∈items:=fun t ht=>by rw [htk] at ht;exact hsub _ (List.mem_filter.mp ht).1
  have hkp:=All2.mapR (R:=KpR P6) (g:=fun (t:T)=>(t.num,t.valu)) htv
  have htl:tv.length≤4000:=by rw [htv.length,htk];exact Nat.le_trans (List.length_filter_le _ _) hel
  have hll:lv.length≤4000:=by rw [hlv.length,hrs];exact Nat.le_trans (List.length_filter_le _ _) hel
  try dsimp only
  have S14:=(S13.settle).settle
  clear S13
  refine S14.abs fun P7 S15 hs7=>?_
  clear S14
  have hs7':∀ p∈P6,p∈P7:=fun p hp=>hs7 _ (.tail _ (.tail _ hp))
  have hTk:=hs7 _ (.head _)
  have hLf:=hs7 _ (.tail _ (.head _))
  clear hs7
  have hkp7:=hkp.mono (KpR.mono hs7')
  have hlv7:All2 (fun v (t:T)=>DatIn P7 v t.tell) lv rs:=hlv.mono fun v t h=>h.mono hs7'
  have to7:∀ p∈P2,p∈P7:=fun p hp=>hs7' _ (to6 _ hp)
  with_reducible (refine (by assumption:Nxt _ _ _ _ _ _ _) _ ?_;refine eI ‹_› ?_;intro _ _ _;refine If_N ?_;intro _ _;refine wpAny_isTrue_Compare1 ?_ (by k_dflt rfl);refine ev_lv ‹_› ‹_› LocV.a11 ?_;refine List_ ?_;refine sp0 ?_;refine nl ‹_› ?_ sl0;intro _ _ _)
  refine eqDat (P₁:=P7) (4 * (T.call f xs).dep + 4) 1 ‹_› (.list hTk (kp_dall hkp7)) (by k_places) (.list (.head _) .nil) (fun _ h=>h) (kp_ok _ _ (kp_dep htm hBB)) (by decide) (by lia) ?_
  intro bb hbb
  rw [kp_nil,List.map_eq_nil_iff] at hbb
  with_reducible (refine wpAny_truthy_bool ?_;refine (by assumption:ImpG _ _) _ _ ?_)
  refine ifB (fun hb=>?_) (fun hb=>?_)
  · have htn:tk = []:=hbb.mp hb
    with_reducible (refine eA ‹_› ?_;intro _ _ _;refine wpAny_Return_some ?_;refine Tuple_ ?_;refine sp1 ?_ (by k_dflt rfl);refine ev_lv ‹_› ‹_› LocV.a2 ?_;refine sp1 ?_ (by k_dflt rfl);refine ev_lv ‹_› ‹_› LocV.a3 ?_;refine sp1 ?_ (by k_dflt rfl);refine ev_lv ‹_› ‹_› LocV.a4 ?_;refine sp0 ?_;refine nt ‹_› ?_ sl3;intro _ _ _;refine (by assumption:Abr _ _) _ _ (by k_dflt rfl) ?_;refine (by assumption:Abr _ _) _ _ (by k_dflt rfl) ?_;refine (by assumption:Imp _ _) _ _ ?_)
    refine fin _ _ _ _ _ ‹_› (fun p hp=>?_) (by k_mem) ?_ (by show turn cn (.call (fixT cn f) _) = .call (fixT cn f) _;rw [hgf,ht1];unfold turnL;dsimp only;rw [hLt,← htk,htn];rfl)
    · have:=to7 _ hp;k_mem
    · have:=hs7' _ (hP6 _ (i5 _ i4));k_mem
  have htn:tk≠[]:=fun e=>by rw [hbb.mpr e] at hb;cases hb
  have he1:1≤(early items).length:=by
    rcases Nat.eq_zero_or_pos (early items).length with h | h
    · rw [List.length_eq_zero_iff.mp h] at htk;exact absurd htk htn
    · exact h
  have hk17:=to7 _ hk1
  with_reducible (refine wpAny_execs_nil ?_;refine (by assumption:Nxt _ _ _ _ _ _ _) _ ?_;refine eI ‹_› ?_;intro _ _ _;refine wpAny_Assign_Name ?_ (by k_dflt rfl);refine wpAny_BinOp ?_;refine ev_lv ‹_› ‹_› LocV.a12 ?_;refine callT (x:=Str.ofString "list") ‹_› ‹_› (gn_list _) bt_list bt_ne_list mm26 ?_ (by k_dflt rfl);refine Subscript_ ?_;refine ev_lv ‹_› ‹_› LocV.a8 ?_;refine wpAny_Slice ?_;refine evalPart_some_step ?_;refine ev_lv ‹_› ‹_› LocV.a13 ?_;refine evalPart_none_step ?_;refine evalPart_none_step ?_)
  refine tup_from (k:=(early items).length) ‹_› (by k_mem) he1 (by have:=early_len items;lia) (by lia) ?_ (by k_dflt rfl) (by k_dflt exact fun _=>rfl)
  intro Dr s7 S7
  refine list_ofT ‹_› (.head _) (by rw [List.length_drop];lia) ?_
  intro D2 e2 s8 S8
  refine add_l (xs:=lv) (ys:=kv1.drop (early items).length) ‹_› (St.isListP ‹_› (by k_mem)) (St.isListP ‹_› (by k_mem)) (fits_le (by rw [List.length_drop];lia)) ?_
  intro D3 s9 S9
  refine S9.abs fun P8 S10 hs8=>?_
  have hD3:=hs8 _ (.head _)
  have hs8':∀ p∈P7,p∈P8:=fun p hp=>hs8 _ (by k_mem)
  clear S9 S8 S7 hs8
  have hL:DatAll P8 (lv ++ kv1.drop (early items).length) (tells (rs ++ items.drop (early items).length)):=by
    rw [tells_append]
    refine (All2.toDat (hlv7.mono fun v t h=>h.mono hs8')).append ?_
    have h1:=hkv1.mono fun p hp=>hs8' _ (to7 p hp)
    exact (dall_drop h1 _)
  have hLn:(lv ++ kv1.drop (early items).length).length = (rs ++ items.drop (early items).length).length:=by
    rw [dall_len hL,tells_map,List.length_map]
  have hLz:(lv ++ kv1.drop (early items).length).length≤9000:=by rw [List.length_append,List.length_drop];lia
  generalize hLL:rs ++ items.drop (early items).length = L at hL hLn
  generalize hLv:lv ++ kv1.drop (early items).length = Lv at hL hLn hLz hD3
  with_reducible (refine st_loc ‹_› ‹_› ?_;refine SetQ.i (SetL.a12) ?_;intro _ _;refine (by assumption:Nxt _ _ _ _ _ _ _) _ ?_;refine eI ‹_› ?_;intro _ _ _;refine wpAny_Assign_Name ?_ (by k_dflt rfl))
  refine cutN gN (fun ns v s'=>∃ P9,DatIn P9 v (seqOf L).tell∧St w c' (asg ns [some (.ref b),none,some (.int (T.call f xs).kind kt),some (.ref o),some (.ref Lp),some (.int l tl),some (.ref pl),some (.int (-1) tr),some (.ref k1),it1,some (.ref D4),some (.ref Tk),some (.ref D3),some (.int (((early items).length:Nat):Int) tki),it2]) ((c'.L + 1 + 1,oN)::own) P9 s'∧(∀ p∈P8,p∈P9)) ?_ ?_
  · intro Qm hqm
    with_reducible (refine IfExpN ?_;intro _ _;refine wpAny_isTrue_Compare1 ?_ (by k_dflt rfl);refine callB1 (x:=Str.ofString "len") ‹_› ‹_› (gn_len _) bt_len bt_ne_len mm21 ?_ (by k_dflt rfl);refine ev_lv ‹_› ‹_› LocV.a12 ?_)
    refine len_P ‹_› (by k_mem) (by lia) ?_
    intro s4 tk4 S4
    with_reducible (refine ev_int ‹_› ?_;intro _ _ _;refine eq_int ?_;refine wpAny_truthy_bool ?_;refine (by assumption:ImpG _ _) _ _ ?_)
    refine ifB (fun hb=>?_) (fun hb=>?_)
    · with_reducible (refine Subscript_ ?_;refine ev_lv ‹_› ‹_› LocV.a12 ?_;refine ev_int ‹_› ?_;intro _ _ _)
      have h1:Lv.length = 1:=by have:=eq_of_beq hb;lia
      refine ex1 (List.length_eq_one_iff.mp (hLn.symm.trans h1)) ?_;intro x hx79
      symm at hx79;subst hx79
      refine ex2 (dall_cons hL) ?_;intro v _ hy81;refine an3 hy81 ?_;clear hy81;intro hx80 hv0 hd7
      symm at hx80;subst hx80
      cases dall_nil hd7
      refine li_item (St.isListP ‹_› hD3) (by decide) (by decide) (by rfl) ?_ (by k_dflt rfl)
      with_reducible (refine (by assumption:ImpG _ _) _ _ ?_)
      exact mk1 _ ⟨hv0,by assumption,fun _ h=>h⟩
    · have h1:¬ L.length = 1:=fun e=>by rw [hLn,e] at hb;exact absurd hb (by decide)
      with_reducible (refine Tuple_ ?_;refine sp1 ?_ (by k_dflt rfl);refine ev_int ‹_› ?_;intro _ _ _;refine sp1 ?_ (by k_dflt rfl);refine Tuple_ ?_;refine sp0 ?_;refine nt ‹_› ?_ sl0;intro _ _ _;refine sp1 ?_ (by k_dflt rfl);refine callT (x:=Str.ofString "tuple") ‹_› ‹_› (gn_tuple _) bt_tuple bt_ne_tuple mm19 ?_ (by k_dflt rfl);refine ev_lv ‹_› ‹_› LocV.a12 ?_)
      refine tuple_of ‹_› (.tail _ hD3) (by lia) ?_
      intro Dt s5 S5
      with_reducible (refine sp0 ?_;refine nt ‹_› ?_ sl3;intro _ _ _;refine (by assumption:ImpG _ _) _ _ ?_)
      refine mk1 _ ⟨?_,by assumption,by k_places⟩
      rw [seqOf_ne1 h1]
      exact .tuple (.head _) (.cons (.int _ _) (.cons (.tuple (.tail _ (.tail _ (.head _))) .nil) (.cons (.tuple (.tail _ (.head _)) (hL.mono fun p hp=>.tail _ (.tail _ (.tail _ hp)))) .nil)))
  intro v s4 hx82
  refine ex1 hx82 ?_;clear hx82;intro P9 hy83;refine an3 hy83 ?_;clear hy83;intro hv9 S9 hs9
  with_reducible (refine st_loc ‹_› ‹_› ?_;refine SetQ.i (SetL.there (SetL.there (SetL.there (SetL.there (SetL.there (SetL.there (SetL.there (SetL.there (SetL.there (SetL.there (SetL.there (SetL.there (SetL.there (SetL.there (SetL.there (SetL.hereN)))))))))))))))) ?_;intro _ _;refine (by assumption:Nxt _ _ _ _ _ _ _) _ ?_;refine eI ‹_› ?_;intro _ _ _;refine wpAny_Assign_Name ?_ (by k_dflt rfl);refine Tuple_ ?_;refine sp1 ?_ (by k_dflt rfl);refine ev_glob ‹_› ‹_› (g_FIX _) mm27 ?_;refine sp1 ?_ (by k_dflt rfl);refine Tuple_ ?_;refine sp1 ?_ (by k_dflt rfl);refine callT (x:=Str.ofString "tuple") ‹_› ‹_› (gn_tuple _) bt_tuple bt_ne_tuple mm19 ?_ (by k_dflt rfl))
  have hTk9:=hs9 _ (hs8' _ hTk)
  have hkp9:=hkp7.mono (KpR.mono fun p hp=>hs9 _ (hs8' _ hp))
  refine comp_evalS ‹_› (by decide) (by k_dflt rfl) (by decide) (by k_dflt rfl) (by decide) (by k_dflt exact fun _=>rfl) ?_
  with_reducible (refine ev_lv ‹_› ‹_› LocV.a11 ?_)
  refine compFst ‹_› hTk9 hkp9 (by lia) rfl (by kernel_rfl) (by kernel_rfl) (by decide) (by decide) ?_
  intro P10 us1 D5 hs10 hus1 s5 S5
  have hun1:us1.length = tv.length:=by rw [hus1.length,List.length_map,List.length_map,htv.length]
  refine tuple_of ‹_› (.head _) (by lia) ?_
  intro D6 s6 S6
  with_reducible (refine sp0 ?_;refine nt ‹_› ?_ sl1;intro _ _ _;refine sp1 ?_ (by k_dflt rfl);refine wpAny_BinOp ?_;refine callT (x:=Str.ofString "tuple") ‹_› ‹_› (gn_tuple _) bt_tuple bt_ne_tuple mm19 ?_ (by k_dflt rfl))
  rename_i Dn _ S7
  refine S7.abs fun P11 S8 hs11=>?_
  have hDn:=hs11 _ (.head _)
  have hD6:=hs11 _ (.tail _ (.head _))
  have hs11':∀ p∈P9,p∈P11:=fun p hp=>hs11 _ (.tail _ (.tail _ (.tail _ (hs10 _ hp))))
  clear S5 S6 S7 hs11
  have hTk11:=hs11' _ hTk9
  have hkp11:=hkp9.mono (KpR.mono hs11')
  refine comp_evalS ‹_› (by decide) (by k_dflt rfl) (by decide) (by k_dflt rfl) (by decide) (by k_dflt exact fun _=>rfl) ?_
  with_reducible (refine ev_lv ‹_› ‹_› LocV.a11 ?_)
  refine compSnd ‹_› hTk11 hkp11 (by lia) rfl (by kernel_rfl) (by kernel_rfl) (by decide) (by decide) ?_
  intro P12 us2 D7 hs12 hus2 s5 S5
  have hun2:us2.length = tv.length:=by rw [dall_len hus2,tells_map,List.length_map,List.length_map,List.length_map,htv.length]
  refine tuple_of ‹_› (.head _) (by lia) ?_
  intro D8 s6 S6
  with_reducible (refine Tuple_ ?_;refine sp1 ?_ (by k_dflt rfl);refine ev_lv ‹_› ‹_› LocV.a15 ?_;refine sp0 ?_;refine nt ‹_› ?_ sl1;intro _ _ _)
  refine add_tup ‹_› (.tail _ (.head _)) (.head _) (by rw [List.length_singleton];lia) ?_
  intro D9 e9 P13 s7 S7 hs13 hD9
  with_reducible (refine sp0 ?_;refine nt ‹_› ?_ sl3;intro _ _ _;refine st_loc ‹_› ‹_› ?_;refine SetQ.i (SetL.a15) ?_;intro _ _;refine (by assumption:Nxt _ _ _ _ _ _ _) _ ?_;refine eI ‹_› ?_;intro _ _ _)
  rename_i Db _ _ _ S10 _ _ _
  refine S10.abs fun P14 S11 hs14=>?_
  have hbody:DatIn P14 (.ref Db) (T.fix (tk.map T.num) (tk.map T.valu) (seqOf L)).tell:=by
    have a1:∀ p∈P11,p∈P14:=fun p hp=>hs14 _ (.tail _ (hs13 _ (.tail _ (.tail _ (.tail _ (hs12 _ hp))))))
    have a2:∀ p∈P12,p∈P14:=fun p hp=>hs14 _ (.tail _ (hs13 _ (.tail _ (.tail _ (.tail _ hp)))))
    rw [List.map_map] at hus1 hus2
    refine .tuple (hs14 _ (.head _)) (.cons (.int _ _) (.cons (.tuple (a1 _ hDn) (.cons (.tuple (a1 _ hD6) (ints_dall hus1)) .nil)) (.cons (.tuple (hs14 _ (.tail _ hD9)) ?_) .nil)))
    exact (hus2.mono a2).append (.cons (hv9.mono fun p hp=>a1 _ (hs11' _ hp)) .nil)
  have hs14':∀ p∈P11,p∈P14:=fun p hp=>hs14 _ (.tail _ (hs13 _ (.tail _ (.tail _ (.tail _ (hs12 _ hp))))))
  clear S5 S6 S7 S8 S10 hs14
  have hTk14:=hs14' _ hTk11
  have hkp14:=hkp11.mono (KpR.mono hs14')
  refine wpAny_Assign_Name ?_ (by k_dflt rfl)
  refine comp_evalS ‹_› (by decide) (by k_dflt rfl) (by decide) (by k_dflt rfl) (by decide) (by k_dflt exact fun _=>rfl) ?_
  with_reducible (refine ev_lv ‹_› ‹_› LocV.a11 ?_)
  refine compFst ‹_› hTk14 hkp14 (by lia) rfl (by kernel_rfl) (by kernel_rfl) (by decide) (by decide) ?_
  intro P15 us3 D10 hs15 hus3 s5 S5
  refine st_cell ‹_› gN (by k_dflt rfl) hN0 mm16 ?_
  intro s6 oN' hoN S6
  have S7:=S6.settle
  refine S7.abs fun P16 S8 hs16=>?_
  have hcN:=hs16 _ (.head _)
  have hD10:(D10,listOf us3.toArray us3.length)∈P16:=hs16 _ (.tail _ (.head _))
  have hs16':∀ p∈P14,p∈P16:=fun p hp=>hs16 _ (.tail _ (.tail _ (hs15 _ hp)))
  clear S5 S6 S7 hs16
  with_reducible (refine (by assumption:Nxt _ _ _ _ _ _ _) _ ?_;refine eI ‹_› ?_;intro _ _ _)
  have to16:∀ p∈P9,p∈P16:=fun p hp=>hs16' _ (hs14' _ (hs11' _ hp))
  have to16b:∀ p∈P7,p∈P16:=fun p hp=>to16 _ (hs9 _ (hs8' _ hp))
  have hLp16:(Lp,tupOf (Value.ref b0::yr) 0)∈P16:=to16b _ (hs7' _ (hP6 _ (i5 _ i4)))
  have hpl16:(pl,tupOf pv epl)∈P16:=to16b _ (to7 _ hpl)
  have hus3':IntsAre us3 (tk.map T.num):=by rw [List.map_map] at hus3;exact hus3
  have hdx:∀ x∈xs.map (fixT cn),2 * x.dep≤4 * (T.call f xs).dep:=fun x hxm=>by
    refine ex1 (List.mem_map.mp hxm) ?_;intro x0 hy84;refine an2 hy84 ?_;clear hy84;intro hx0 hx1
    have h1:=dep_fixT cn x0
    have h2:x0.dep < (T.call f xs).dep:=dep_kid (List.mem_cons_of_mem _ hx0)
    rw [hx1] at h1;lia
  refine comp_assignS ‹_› gN (by k_dflt rfl) (by decide) (by k_dflt rfl) (by decide) (by k_dflt rfl) (by decide) (by k_dflt exact fun _=>rfl) ?_
  with_reducible (refine callT2 (x:=Str.ofString "zip") ‹_› ‹_› (gn_zip _) bt_zip bt_ne_zip mm22 ?_ (by k_dflt rfl) (by k_dflt rfl);refine ev_lv ‹_› ‹_› LocV.a6 ?_;refine Subscript_ ?_;refine ev_lv ‹_› ‹_› LocV.a4 ?_;refine wpAny_Slice ?_;refine evalPart_some_step ?_;refine ev_int ‹_› ?_;intro _ _ _;refine evalPart_none_step ?_;refine evalPart_none_step ?_)
  refine tup_from (k:=1) ‹_› hLp16 (by decide) (by rw [List.length_cons];lia) (by rw [List.length_cons];lia) ?_ (by k_dflt rfl) (by k_dflt exact fun _=>rfl)
  intro Dq s9 S9
  rw [show List.drop 1 (Value.ref b0::yr) = yr from rfl] at S9
  refine compZT ‹_› (.tail _ hpl16) (.head _) (by lia) rfl (by kernel_rfl) (by kernel_rfl) (by decide) (fun i own₁ P₁ zs=>own₁ = own∧(∀ p∈P16,p∈P₁)∧All2 (KpR P₁) zs (((ps.take i).zip ((xs.map (fixT cn)).take i)).filter fun p=>!(tk.map T.num).contains p.1)) ⟨rfl,fun p hp=>.tail _ hp,.nil⟩ ?_ ?_
  ·
    intro i own₁ P₁ P₁' tl' C oC m₂ zs s₂ E' hi hx85 hx86 hC htl S hs
    refine an3 hx85 ?_;clear hx85;intro hx87 hPi hzs
    symm at hx87;subst hx87
    refine ex2 hx86 ?_;clear hx86;intro va vb hy88;refine an4 hy88 ?_;clear hy88;intro hva hvb hma hmb
    refine ex2 (hpi.at _ _ hva) ?_;intro n u hy90;refine an2 hy90 ?_;clear hy90;intro hx89 hn
    symm at hx89;subst hx89
    refine ex1 (dall_get hyr hvb) ?_;intro d hy91;refine an2 hy91 ?_;clear hy91;intro hd hvd
    refine ex1 (tells_get hd) ?_;intro x hy93;refine an2 hy93 ?_;clear hy93;intro hx hx92
    symm at hx92;subst hx92
    have to3:∀ p∈P2,p∈P₁':=fun p hp=>hs _ (hPi _ (to16b _ (to7 _ hp)))
    have hlt:((ps.take (i + 1)).zip ((xs.map (fixT cn)).take (i + 1))).filter (fun p=>!(tk.map T.num).contains p.1) = ((ps.take i).zip ((xs.map (fixT cn)).take i)).filter (fun p=>!(tk.map T.num).contains p.1) ++ (if (tk.map T.num).contains n then [] else [(n,x)]):=by
      rw [List.take_add_one,List.take_add_one,hn,hx,Option.toList_some,Option.toList_some,List.zip_append (by rw [List.length_take,List.length_take,List.length_map,hl]),List.filter_append]
      by_cases hu:(tk.map T.num).contains n = true
      · simp only [List.zip_cons_cons,List.zip_nil_right,List.filter_cons,hu,Bool.not_true,Bool.false_eq_true,if_false,if_true,List.filter_nil]
      · have hu':(tk.map T.num).contains n = false:=by simpa using hu
        simp only [List.zip_cons_cons,List.zip_nil_right,List.filter_cons,hu',Bool.not_false,Bool.false_eq_true,if_false,if_true,List.filter_nil]
    have hzs':=hzs.mono (KpR.mono hs)
    show wpAny _ _ _ _ _ _
    refine wpAny_isTrue_Compare1 ?_ (by k_dflt rfl)
    refine cv_loc S (List.mem_append_right _ htl) hC hma ?_ rfl (by kernel_rfl)
    refine cv_cell S (by k_dflt rfl) (hs _ (hPi _ hcN)) hoN ?_ rfl (by kernel_rfl)
    refine PyProof.Rows.notin_list_ints (St.isListP S (hs _ (hPi _ hD10))) hus3' ?_
    rw [any_contains]
    with_reducible (refine wpAny_truthy_bool ?_)
    refine ifB (fun hb=>?_) (fun hb=>?_)
    · have hc:(tk.map T.num).contains n = false:=by simpa using hb
      rw [hc,if_neg (by decide)] at hlt
      refine Tuple_ ?_
      with_reducible (refine sp1 ?_ (by k_dflt rfl))
      refine cv_loc S (List.mem_append_right _ htl) hC hma ?_ rfl (by kernel_rfl)
      with_reducible (refine sp1 ?_ (by k_dflt rfl))
      refine cv_loc S (List.mem_append_right _ htl) hC hmb ?_ rfl (by kernel_rfl)
      with_reducible (refine sp0 ?_;refine nt ‹_› ?_ sl2;intro _ _ _)
      refine mk2 _ _ ⟨‹_›,?_,rfl,?_,?_⟩
      · k_places
      · intro p hp
        have:=hs _ (hPi _ hp)
        k_mem
      · rw [hlt];exact (hzs'.mono (KpR.mono fun p hp=>.tail _ hp)).snoc (mk4 _ _ _ _ ⟨rfl,.head _,hvd.mono fun p hp=>.tail _ (to3 _ hp)⟩)
    · have hc:(tk.map T.num).contains n = true:=by simpa using hb
      rw [hc,if_pos rfl,List.append_nil] at hlt
      refine mk2 _ _ ⟨‹_›,?_,rfl,?_,?_⟩
      · k_places
      · intro p hp
        have:=hs _ (hPi _ hp)
        k_mem
      · rw [hlt];simpa using hzs'
  intro own' P17 zs D11 hx94
  refine an3 hx94 ?_;clear hx94;intro hx95 hP17 hzs
  symm at hx95;subst hx95
  have hzz:((ps.take (min pv.length yr.length)).zip ((xs.map (fixT cn)).take (min pv.length yr.length))).filter (fun p=>!(tk.map T.num).contains p.1) = (ps.zip (xs.map (fixT cn))).filter (fun p=>!(tk.map T.num).contains p.1):=by
    rw [hmin,zip_min]
  rw [hzz] at hzs
  refine SetQ.i (SetL.there (SetL.there (SetL.there (SetL.there (SetL.there (SetL.there (SetL.there (SetL.there (SetL.there (SetL.there (SetL.there (SetL.there (SetL.there (SetL.there (SetL.there (SetL.there (SetL.thereN (SetL.hereN)))))))))))))))))) ?_
  intro s10 S10
  try dsimp only
  have hks:∀ p∈(ps.zip (xs.map (fixT cn))).filter (fun p=>!(tk.map T.num).contains p.1),2 * p.2.dep≤4 * (T.call f xs).dep:=fun p hp=>hdx _ (List.of_mem_zip (List.mem_filter.mp hp).1).2
  generalize hkk:(ps.zip (xs.map (fixT cn))).filter (fun p=>!(tk.map T.num).contains p.1) = ks at hzs hks
  have hzn:zs.length≤4000:=by
    have h1:=List.length_filter_le (fun p=>!(tk.map T.num).contains p.1) (ps.zip (xs.map (fixT cn)))
    rw [hkk,List.length_zip,List.length_map] at h1
    rw [hzs.length];lia
  refine S10.abs fun P18 S11 hs18=>?_
  have hD11:(D11,listOf zs.toArray zs.length)∈P18:=hs18 _ (.head _)
  have hs18':∀ p∈P16,p∈P18:=fun p hp=>hs18 _ (.tail _ (hP17 _ hp))
  have hzs18:=hzs.mono (KpR.mono fun p hp=>hs18 _ (.tail _ hp))
  clear S10 hs18 S9
  with_reducible (refine (by assumption:Nxt _ _ _ _ _ _ _) _ ?_;refine eI ‹_› ?_;intro _ _ _;refine If_N ?_;intro _ _;refine wpAny_isTrue_Compare1 ?_ (by k_dflt rfl);refine ev_lv ‹_› ‹_› LocV.a17 ?_;refine List_ ?_;refine sp0 ?_;refine nl ‹_› ?_ sl0;intro _ _ _)
  refine eqDat (P₁:=P18) (4 * (T.call f xs).dep + 4) 1 ‹_› (.list hD11 (kp_dall hzs18)) (by k_places) (.list (.head _) .nil) (fun _ h=>h) (kp_ok _ _ hks) (by decide) (by lia) ?_
  intro bb hbb
  rw [kp_nil] at hbb
  have hts:T.tell (fixT cn (T.call f xs)) = T.tell (if ks.isEmpty then T.fix (tk.map T.num) (tk.map T.valu) (seqOf L) else .call (.lam l (ks.map (·.1)) (T.fix (tk.map T.num) (tk.map T.valu) (seqOf L))) (ks.map (·.2))):=by
    show T.tell (turn cn (.call (fixT cn f) (fixTs cn xs))) = _
    rw [fixTs_map,hgf,ht1]
    unfold turnL
    try dsimp only
    rw [hLt,← htk,← hrs,hLL,hkk,if_neg (by simpa using htn)]
  with_reducible (refine wpAny_truthy_bool ?_;refine (by assumption:ImpG _ _) _ _ ?_)
  refine ifB (fun hb=>?_) (fun hb=>?_)
  · have hkn:ks = []:=hbb.mp hb
    with_reducible (refine eA ‹_› ?_;intro _ _ _;refine wpAny_Return_some ?_;refine ev_lv ‹_› ‹_› LocV.a15 ?_;refine (by assumption:Abr _ _) _ _ (by k_dflt rfl) ?_;refine (by assumption:Abr _ _) _ _ (by k_dflt rfl) ?_;refine (by assumption:Imp _ _) _ _ ?_)
    refine mk4 _ own [] _ ⟨(by rw [List.append_nil];assumption),(fun p hp=>?_),rfl,rfl,?_⟩
    · have:=hs18' _ (to16b _ (to7 _ (toP2 _ hp)));k_mem
    · rw [hts,hkn]
      exact hbody.mono fun p hp=>.tail _ (hs18' _ (hs16' _ hp))
  have hkn:ks≠[]:=fun e=>by rw [hbb.mpr e] at hb;cases hb
  with_reducible (refine wpAny_execs_nil ?_;refine (by assumption:Nxt _ _ _ _ _ _ _) _ ?_;refine eI ‹_› ?_;intro _ _ _;refine wpAny_Assign_Name ?_ (by k_dflt rfl);refine Tuple_ ?_;refine sp1 ?_ (by k_dflt rfl);refine ev_glob ‹_› ‹_› (g_LAMBDA _) mm20 ?_;refine sp1 ?_ (by k_dflt rfl);refine Tuple_ ?_;refine sp1 ?_ (by k_dflt rfl);refine ev_lv ‹_› ‹_› LocV.a5 ?_;refine sp1 ?_ (by k_dflt rfl);refine callT (x:=Str.ofString "tuple") ‹_› ‹_› (gn_tuple _) bt_tuple bt_ne_tuple mm19 ?_ (by k_dflt rfl))
  refine comp_evalS ‹_› (by decide) (by k_dflt rfl) (by decide) (by k_dflt rfl) (by decide) (by k_dflt exact fun _=>rfl) ?_
  with_reducible (refine ev_lv ‹_› ‹_› LocV.a17 ?_)
  refine compFst ‹_› (.tail _ hD11) (hzs18.mono (KpR.mono fun p hp=>.tail _ hp)) (by lia) rfl (by kernel_rfl) (by kernel_rfl) (by decide) (by decide) ?_
  intro P19 us4 D12 hs19 hus4 s5 S5
  have hun4:us4.length = zs.length:=by rw [hus4.length,List.length_map,hzs.length]
  refine tuple_of ‹_› (.head _) (by lia) ?_
  intro D13 s6 S6
  with_reducible (refine sp1 ?_ (by k_dflt rfl);refine ev_lv ‹_› ‹_› LocV.a7 ?_;refine sp0 ?_;refine nt ‹_› ?_ sl3;intro _ _ _;refine sp1 ?_ (by k_dflt rfl);refine Tuple_ ?_;refine sp1 ?_ (by k_dflt rfl);refine ev_lv ‹_› ‹_› LocV.a15 ?_;refine sp0 ?_;refine nt ‹_› ?_ sl1;intro _ _ _;refine sp0 ?_;refine nt ‹_› ?_ sl3;intro _ _ _;refine st_loc ‹_› ‹_› ?_;refine SetQ.i (SetL.there (SetL.there (SetL.there (SetL.there (SetL.there (SetL.there (SetL.there (SetL.there (SetL.there (SetL.there (SetL.there (SetL.there (SetL.there (SetL.there (SetL.there (SetL.there (SetL.there (SetL.there (SetL.hereN))))))))))))))))))) ?_;intro _ _;refine (by assumption:Nxt _ _ _ _ _ _ _) _ ?_;refine eI ‹_› ?_;intro _ _ _;refine wpAny_Return_some ?_;refine Tuple_ ?_;refine sp1 ?_ (by k_dflt rfl);refine ev_lv ‹_› ‹_› LocV.a2 ?_;refine sp1 ?_ (by k_dflt rfl);refine ev_lv ‹_› ‹_› LocV.a3 ?_;refine sp1 ?_ (by k_dflt rfl);refine wpAny_BinOp ?_;refine Tuple_ ?_;refine sp1 ?_ (by k_dflt rfl);refine ev_lv ‹_› ‹_› LocV.a18 ?_;refine sp0 ?_;refine nt ‹_› ?_ sl1;intro _ _ _;refine callT (x:=Str.ofString "tuple") ‹_› ‹_› (gn_tuple _) bt_tuple bt_ne_tuple mm19 ?_ (by k_dflt rfl))
  rename_i Dhd _ _ _ _ _ _ _ Dh1 _ S12
  refine S12.abs fun P20 S13 hs20=>?_
  have hs20':∀ p∈P18,p∈P20:=by
    intro p hp
    have:=hs19 _ (List.mem_cons_of_mem _ hp)
    exact hs20 _ (by k_mem)
  have hhead:DatIn P20 (.ref Dhd) (T.lam l (ks.map (·.1)) (T.fix (tk.map T.num) (tk.map T.valu) (seqOf L))).tell:=by
    refine .tuple (hs20 _ (.tail _ (.head _))) (.cons (.int _ _) (.cons (.tuple (hs20 _ (by k_mem)) (.cons (.int _ _) (.cons (.tuple (hs20 _ (by k_mem)) (ints_dall hus4)) (.cons (.int _ _) .nil)))) (.cons (.tuple (hs20 _ (by k_mem)) (.cons (hbody.mono fun p hp=>hs20' _ (hs18' _ (hs16' _ hp))) .nil)) .nil)))
  have hDh1:=hs20 _ (.head _)
  clear S5 S6 S12 hs20
  refine comp_evalS ‹_› (by decide) (by k_dflt rfl) (by decide) (by k_dflt rfl) (by decide) (by k_dflt exact fun _=>rfl) ?_
  with_reducible (refine ev_lv ‹_› ‹_› LocV.a17 ?_)
  refine compSnd ‹_› (hs20' _ hD11) (hzs18.mono (KpR.mono hs20')) (by lia) rfl (by kernel_rfl) (by kernel_rfl) (by decide) (by decide) ?_
  intro P21 us5 D14 hs21 hus5 s5 S5
  have hun5:us5.length = zs.length:=by rw [dall_len hus5,tells_map,List.length_map,List.length_map,hzs.length]
  refine tuple_of ‹_› (.head _) (by lia) ?_
  intro D15 s6 S6
  refine add_tup ‹_› (.tail _ (.tail _ (hs21 _ hDh1))) (.head _) (by rw [List.length_singleton];lia) ?_
  intro D16 e16 P22 s7 S7 hs22 hD16
  with_reducible (refine sp0 ?_;refine nt ‹_› ?_ sl3;intro _ _ _;refine (by assumption:Abr _ _) _ _ (by k_dflt rfl) ?_;refine (by assumption:Imp _ _) _ _ ?_)
  have f20:∀ p∈P20,p∈P22:=fun p hp=>hs22 _ (.tail _ (.tail _ (hs21 _ hp)))
  have f2:∀ p∈P2,p∈P22:=fun p hp=>f20 _ (hs20' _ (hs18' _ (to16b _ (to7 _ hp))))
  refine mk4 _ own [] _ ⟨(by rw [List.append_nil];assumption),(fun p hp=>.tail _ (f2 _ (toP2 _ hp))),rfl,rfl,?_⟩
  rw [hts,if_neg (by simpa using hkn)]
  refine .tuple (.head _) (.cons (.int _ _) (.cons (.tuple (.tail _ (f2 _ (toP2 _ ho))) (hvo.mono fun p hp=>.tail _ (f2 _ (toP2 _ hp)))) (.cons (.tuple (.tail _ hD16) ?_) .nil)))
  exact .cons (hhead.mono fun p hp=>.tail _ (f20 _ hp)) (hus5.mono fun p hp=>.tail _ (hs22 _ (.tail _ (.tail _ hp))))
theorem due_of {w:World} {P:Led} {W:T} {wv:Value} {cn:Int→Nat} (t:T) (v:Value) (hv:DatIn P v t.tell) (hwv:DatIn P wv W.tell) (hcn:∀ n,cn n = (setn W).count n) (hW:W.size≤4000) (hok:OkT cn t) :
    Pure w (4 * t.dep + (2 * W.dep + 20)) P (call (.ref 565) [v,wv]) fun P' r=>DatIn P' r (fixT cn t).tell :=
  due1 t v hv hwv hcn hW hok fun d hd v P h hw=>due_of d v h hw hcn hW (hok.kid hd)
termination_by t.size
decreasing_by exact size_kid hd
end
section
open PySem.Calls
theorem enterMS {w:World} {c:Cx} {m:Str→Option Value} {cells rest P:Led} {s:Shared} {Q E:Value→Shared→Prop} {K:Frag} {name qual:Str} {params:Arguments} {body:List Stmt} {ns:List (Str × NameKind)} {mo:List (Str × Const)} {dV kV doc pm cdv ct oc:Value} {an od:Option Addr} {osl:Array (Option Value)} {f:Addr} {vs:List Value} {Out:Led→Led→Value→Prop}
    (hK:K = hd.heap_39 w.params) (S:St w c m (cells ++ rest) P s)
    (ho:K.lookup f = some ⟨oc,od,.func (fnOf name qual params body (fnSc ns mo) dV kV doc pm an cdv ct),osl⟩) (hcd:codeIn K cdv qual = true) (hroom:c.A.depth < recursionLimit)
    (hbind:BindsTo s (fnOf name qual params body (fnSc ns mo) dV kV doc pm an cdv ct) ⟨vs,[]⟩ ((params.args.map (·.arg)).zip vs)) (hlen:(params.args.map (·.arg)).length = vs.length) (hgood:goodFn ns (params.args.map (·.arg)) = true)
    (h:∀ c' s',(∀ b o,c.g.get? b = some o→c'.g.get? b = some o)→goodNs ns = true→c'.A.depth = c.A.depth + 1→c'.A.units = c.A.units + 3→St w c' (asg ns (vs.map some)) cells P s' →
      wpAny (model rw_pq1024_01.row.prog w) c'.A (execs body (envX qual (fnSc ns mo) c'.L f cdv [])) (fun fl s''=>Ends w c' P (fun cs P' r=>cs.map (·.1) = cells.map (·.1)∧Out cs P' r) (match fl with | .ret v=>v | _=>.none) s'') (fun _ _=>False) s')
    (ret:∀ r cells' P' s',St w c m (cells' ++ rest) P' s'→cells'.map (·.1) = cells.map (·.1)→(∀ p∈P,p∈P')→Out cells' P' r→Q r s') :
    codeAny (model rw_pq1024_01.row.prog w) c.A (.call (.ref f) ⟨vs,[]⟩) (fun r s'=>match r with | .ok (.ret v)=>Q v s' | .ok _=>False | .error e=>E e s') s:=by
  subst hK
  refine ex1 (S.fr) ?_;intro e hy1;refine an3 hy1 ?_;clear hy1;intro hA hf hke
  have Nsub:News c.g c.L s.heap (cells ++ P):=fun p hp=>S.N p ((List.mem_append.mp hp).elim (fun h=>List.mem_append_left _ (List.mem_append_left _ h)) fun h=>List.mem_append_right _ h)
  simp only [goodFn,Bool.and_eq_true,List.all_eq_true,bne_iff_ne,ne_eq] at hgood
  refine an2 hgood ?_;clear hgood;intro hx2 hcell
  refine an2 hx2 ?_;clear hx2;intro hg hpre
  have hloc:∀ y∈(params.args.map (·.arg)).zip vs,(fnSc ns mo).names.lookup y.1 = some .local:=fun y hy=>(goodNs_mem hg (prefix_mem hpre _ (List.of_mem_zip hy).1)).1
  refine code_defG (news:=cells ++ P) S.B S.F S.X Nsub S.T hA hf hke ho hcd hroom hbind hloc (fun g L' h₁ FG F' N' B' X' T' G'=>?_) rfl rfl rfl hcell
  have hasg:(fun y=>((params.args.map (·.arg)).zip vs).reverse.lookup y) = asg ns (vs.map some):=funext fun y=>asg_args y hg hpre hlen
  rw [hasg] at F'
  have ndc:(cells.map (·.1)).Nodup:=by
    have:=S.nd
    rw [List.map_append] at this
    exact (List.nodup_append.mp this).1
  let c':Cx:=⟨c.pp,c.loose,c.mean,c.mg,c.mb,c.A,c.base,e::c.outer,g,L',c.A.deeper (envOf qual (fnSc ns mo) L' f cdv),s⟩
  have S':St w c' (asg ns (vs.map some)) cells P { s with heap:=h₁,toks:=s.toks + ((params.args.map (·.arg)).zip vs).length } :=
    ⟨F',N',apart_left S.ap,ndc,X',T',B',S.hh,⟨_,Around.frames_deeper B'.stack,rfl,rfl⟩,rfl,rfl,rfl⟩
  refine wpAny_mono (h c' _ (fun b o e=>FG.keep b o e) hg rfl rfl S') (fun fl s' hdn=>?_) fun _ _ e=>e.elim
  refine ex4 hdn ?_;clear hdn;intro m₂ cells' own' P' hy3;refine an4 hy3 ?_;clear hy3;intro S₂ hs hcs hO
  refine mk3 L' m₂ ((cells' ++ own') ++ P') ⟨S₂.F,S₂.N,fun F₃ N₃=>?_⟩
  have hid:∀ q∈rest,q.1 ∉ (cells ++ P).map (·.1):=fun q hq hm=>by
    refine ex1 (List.mem_map.mp hm) ?_;intro p hy4;refine an2 hy4 ?_;clear hy4;intro hp e
    rcases List.mem_append.mp hp with hp | hp
    · have:=S.nd
      rw [List.map_append,List.nodup_append] at this
      exact this.2.2 p.1 (List.mem_map_of_mem hp) q.1 (List.mem_map_of_mem hq) e
    · exact S.ap q (List.mem_append_right _ hq) p hp e
  have gq:∀ q∈rest,g.get? q.1 = some q.2:=fun q hq=>G' _ _ (S.N q (List.mem_append_left _ (List.mem_append_right _ hq))).1 (hid q hq)
  have eq':s' = { s with heap:=s'.heap,toks:=s'.toks }:=by
    have h1:=S₂.eg
    have h2:=S₂.ed
    have h3:=S₂.eo
    cases s'
    dsimp only [c'] at h1 h2 h3
    subst h1 h2 h3
    rfl
  have ap':Apart (cells' ++ rest) P':=by
    intro q hq p hp e
    rcases List.mem_append.mp hq with hq | hq
    · exact S₂.ap q (List.mem_append_left _ hq) p hp e
    · have h1:=(S₂.N p (List.mem_append_right _ hp)).2.2
      rw [e,gq q hq] at h1
      cases h1
  have nd':((cells' ++ rest).map (·.1)).Nodup:=by
    have:=S.nd
    rw [List.map_append] at this ⊢
    rw [hcs];exact this
  refine ret _ cells' P' s' ⟨F₃,fun p hp=>?_,ap',nd',S.X,S.T,S.B,S.hh,S.fr,(congrArg Shared.gens eq').trans S.eg,(congrArg Shared.drawn eq').trans S.ed,(congrArg Shared.os eq').trans S.eo⟩ hcs hs hO
  rcases List.mem_append.mp hp with hp | hp
  · rcases List.mem_append.mp hp with hp | hp
    · exact N₃ p (List.mem_append_left _ (List.mem_append_left _ hp))
    · exact ⟨S₂.F.keep _ _ (gq p hp),(S.N p (List.mem_append_left _ (List.mem_append_right _ hp))).2⟩
  · exact N₃ p (List.mem_append_right _ hp)
theorem enterS {w:World} {c:Cx} {m:Str→Option Value} {own P:Led} {s:Shared} {Q E:Value→Shared→Prop} {K:Frag} {name qual:Str} {params:Arguments} {body:List Stmt} {ns:List (Str × NameKind)} {mo:List (Str × Const)} {dV kV doc pm cdv ct oc:Value} {an od:Option Addr} {osl:Array (Option Value)} {f:Addr} {vs:List Value} {Out:Led→Value→Prop}
    (hK:K = hd.heap_39 w.params) (S:St w c m own P s)
    (ho:K.lookup f = some ⟨oc,od,.func (fnOf name qual params body (fnSc ns mo) dV kV doc pm an cdv ct),osl⟩) (hcd:codeIn K cdv qual = true) (hroom:c.A.depth < recursionLimit)
    (hbind:BindsTo s (fnOf name qual params body (fnSc ns mo) dV kV doc pm an cdv ct) ⟨vs,[]⟩ ((params.args.map (·.arg)).zip vs)) (hlen:(params.args.map (·.arg)).length = vs.length) (hgood:goodFn ns (params.args.map (·.arg)) = true)
    (h:∀ c' s',(∀ b o,c.g.get? b = some o→c'.g.get? b = some o)→goodNs ns = true→c'.A.depth = c.A.depth + 1→c'.A.units = c.A.units + 3→St w c' (asg ns (vs.map some)) [] P s' →
      wpAny (model rw_pq1024_01.row.prog w) c'.A (execs body (envX qual (fnSc ns mo) c'.L f cdv [])) (fun fl s''=>Ends w c' P (fun cs P' r=>cs = []∧Out P' r) (match fl with | .ret v=>v | _=>.none) s'') (fun _ _=>False) s')
    (ret:∀ r P' s',St w c m own P' s'→(∀ p∈P,p∈P')→Out P' r→Q r s') :
    codeAny (model rw_pq1024_01.row.prog w) c.A (.call (.ref f) ⟨vs,[]⟩) (fun r s'=>match r with | .ok (.ret v)=>Q v s' | .ok _=>False | .error e=>E e s') s:=by
  refine enterMS (cells:=[]) (rest:=own) (Out:=fun cs P' r=>cs = []∧Out P' r) hK S ho hcd hroom hbind hlen hgood (fun c' s' hk h0 h1 h2 S'=>wpAny_mono (h c' s' hk h0 h1 h2 S') (fun fl s'' hf=>?_) fun _ _ e=>e) (fun r cs P' s' S' e hs o=>?_)
  · refine ex4 hf ?_;clear hf;intro m' cs own' P' hy6;refine an4 hy6 ?_;clear hy6;intro S'' hs hx5 ho
    symm at hx5;subst hx5
    exact mk4 m' [] own' P' ⟨S'',hs,rfl,rfl,ho⟩
  · refine an2 o ?_;clear o;intro hx7 o
    symm at hx7;subst hx7
    exact ret r P' s' S' hs o
section
variable {w:World} {c:Cx} {m:Str→Option Value} {own P:Led} {s:Shared} {E:Value→Shared→Prop} {Q:Value→Shared→Prop}
theorem ccallB1 {C:Addr} {scope:Scope} {cl:List (Str × Addr)} {env:Env} {x:Str} {px pos:Pos} {T:String} {e1:Expr} (S:St w c m own P s) (e:nsIn (hd.heap_39 w.params) mainGlobals x = some none) (hv:bootBuiltins x = some (.builtin T)) (hn:x≠"__name__")
    (h:wpAny (model rw_pq1024_01.row.prog w) c.A (eval e1 (compEnvC scope cl C env)) (fun v1 s1=>wpAny (model rw_pq1024_01.row.prog w) c.A (call (.builtin T) [v1]) Q E s1) E s) (hg:env.globals = mainGlobals) (hb:env.builtins = builtinsNs)
    (hk:(compEnvC scope cl C env).scope.kind = .function) (hx:(compEnvC scope cl C env).kindOf x = some .globalImplicit) (he1:starEach [e1] (compEnvC scope cl C env) = [(false,eval e1 (compEnvC scope cl C env))]) (hd:(x == ("__debug__":Str)) = false:=by decide) :
    wpAny (model rw_pq1024_01.row.prog w) c.A (eval (.Call (.Name x px) [e1] [] pos) (compEnvC scope cl C env)) Q E s :=
  Call_ (LCgL.ld_built S.F S.X S.T e hv hn (PyProof.Rows.callWith_builtin1 (args_cons (wpAny_mono h (fun v s1 h1=>args_nil h1) fun _ _ e=>e) he1) he1 rfl) hg hb hk hx hd)
theorem add_lO {a b:Addr} {xs ys:List Value} {Q:Value→Shared→Prop} (S:St w c m own P s) (ha:s.heap.IsList a xs.toArray) (hb:s.heap.IsList b ys.toArray) (hz:xs.length + ys.length≤sizeLine)
    (h:∀ D s',St w c m ((D,listOf (xs ++ ys).toArray 0)::own) P s'→Q (.ref D) s'):wpAny (model rw_pq1024_01.row.prog w) c.A (binaryOp .Add (.ref a) (.ref b)) Q E s :=
  kmk_add_lit (zs:=xs ++ ys) S.F S.N ha hb (by simp) (fun D h' F' N' lt=>h D _ (S.addO (tk:=s.toks) F' N' lt)) (by simpa using hz)
theorem deck_of {a:Addr} {us:List Value} {ns:List Int} (S:St w c m own P s) (hl:c.g.IsList a us.toArray) (hi:IntsAre us ns) (hz:us.length≤63) (hdp:c.A.depth + 4 < recursionLimit) (hu:c.A.units + 32 < cLine)
    (ret:∀ D xs n P' s',St w c m own P' s'→(∀ p∈P,p∈P')→(D,listOf xs.toArray n)∈P'→Dk xs→(∀ p∈P,p.1≠D)→Q (.ref D) s') :
    wpAny (model rw_pq1024_01.row.prog w) c.A (call (.ref 524) [.ref a]) Q E s:=by
  have X:=S.X
  refine wpAny_call ?_
  refine enterS (K:=hd.heap_39 _) (Out:=fun P' r=>∃ D xs n,r = .ref D∧(D,listOf xs.toArray n)∈P'∧Dk xs∧∀ p∈P,p.1≠D) rfl S (by k_is) (by k_is) (by lia) (by exact BindsTo.of_eq rfl) (by exact rfl) (by kernel_rfl) ?_ ?_
  case refine_2 =>
    intro r P' s' S' hs hx8
    refine ex3 hx8 ?_;clear hx8;intro D xs n hy10;refine an4 hy10 ?_;clear hy10;intro hx9 h1 h2 h3
    symm at hx9;subst hx9
    exact ret D xs n P' s' S' hs h1 h2 h3
  clear ret S
  intro c' s' hkp gN hd' hu' S'
  dsimp only [List.map] at S'
  have hl':c'.g.IsList a us.toArray:=hl.at fun o e=>hkp _ o e
  with_reducible (refine nameQ ?_;intro _ _;refine eN ?_;intro _ _ _;refine wpAny_Return_some ?_;refine wpAny_BinOp ?_)
  refine comp_evalS ‹_› (by decide) (by k_dflt rfl) (by decide) (by k_dflt rfl) (by decide) (by k_dflt exact fun _=>rfl) ?_
  with_reducible (refine Subscript_ ?_;refine ev_lv ‹_› ‹_› LocV.a0 ?_;refine wpAny_Slice ?_;refine evalPart_none_step ?_;refine evalPart_some_step ?_;refine ev_int ‹_› ?_;intro _ _ _;refine evalPart_none_step ?_)
  rename_i S1
  refine slice_up (xs:=us) ‹_› (hl'.at fun o e=>S1.F.keep _ o e) .none (.int _ _) (pick_to (by decide)) (by lia) ?_ (by k_dflt rfl) (by k_dflt exact fun _=>rfl)
  intro Ds s3 S3
  refine compL (vs:=us.take 24) ‹_› (.head _) (by rw [List.length_take];lia) rfl (by kernel_rfl) (fun i own₁ P₁ ys=>own₁ = []∧(∀ p∈P,p∈P₁)∧(∃ ns',IntsAre ys ns'∧(∀ i∈ns',(0:Int)≤i))∧ys.length = i) ⟨rfl,fun p hp=>.tail _ hp,⟨[],.nil,fun _ h=>nomatch h⟩,rfl⟩ ?_ ?_
  · intro i own₁ P₁ P₁' tl C oC m₂ ys s₂ E' hi' hx11 hG hC htl S hs
    refine an4 hx11 ?_;clear hx11;intro hx12 hPi hx13 hyn
    symm at hx12;subst hx12
    refine ex1 hx13 ?_;clear hx13;intro ns' hy14;refine an2 hy14 ?_;clear hy14;intro hy1 hy2
    have hi2:i < 24∧i < us.length:=by rw [List.length_take] at hi';lia
    rw [List.getElem?_take_of_lt hi2.1] at hG
    obtain ⟨v,hv⟩:∃ v,us[i]? = some v:=⟨us[i]'hi2.2,by simp [hi2.2]⟩
    refine ex2 (hi.at _ _ hv) ?_;intro n u hy16;refine an2 hy16 ?_;clear hy16;intro hx15 hn
    symm at hx15;subst hx15
    rw [hv] at hG
    show wpAny _ _ _ _ _ _
    refine wpAny_BinOp ?_
    refine ccallB1 (x:=Str.ofString "abs") S (gn_abs _) bt_abs bt_ne_abs ?_ rfl rfl rfl (by kernel_rfl) (by k_dflt rfl)
    refine cv_loc S (List.mem_append_right _ htl) hC hG ?_ rfl (by kernel_rfl)
    refine PyProof.Rows.call_abs_int ?_
    intro u1 tk1
    have S4:=S.tok tk1
    refine wpAny_BinOp ?_
    refine ev_int S4 ?_
    intro s5 tk5 S5
    refine ev_int S5 ?_
    intro s6 tk6 S6
    refine pow_int_small (by decide) (by decide) (by decide) ?_
    refine modS (S6.tok _) (by decide) ?_
    intro s7 tk7 S7
    refine mk2 _ _ ⟨S7,fun _ h=>h,rfl,fun p hp=>hs _ (hPi _ hp),⟨ns' ++ [_],hy1.append (.cons _ _ .nil),fun z hz=>?_⟩,by simp [hyn]⟩
    rcases List.mem_append.mp hz with hz | hz
    · exact hy2 z hz
    · rw [List.mem_singleton.mp hz]
      exact Int.fmod_nonneg_of_pos _ (by decide)
  intro own' P2 ys D hx17 s4 S4
  refine an4 hx17 ?_;clear hx17;intro hx18 hP2 hx19 hyn
  symm at hx18;subst hx18
  refine ex1 hx19 ?_;clear hx19;intro ns' hy20;refine an2 hy20 ?_;clear hy20;intro hy1 hy2
  have hyz:ys.length≤24:=by rw [hyn,List.length_take];lia
  with_reducible (refine List_ ?_;refine sp1 ?_ (by k_dflt rfl);refine ev_int ‹_› ?_;intro _ _ _;refine sp0 ?_;refine nl ‹_› ?_ sl1;intro _ _ _)
  rename_i Lc s5 S5
  refine add_lO (xs:=ys) (ys:=[_]) S5 (St.isListP S5 (.tail _ (.head _))) (St.isListP S5 (.head _)) (fits_le (by simp;lia)) ?_
  intro D2 s6 S6
  with_reducible (refine (by assumption:Abr _ _) _ _ (by k_dflt rfl) ?_;refine (by assumption:Imp _ _) _ _ ?_)
  refine Ends.of (own':=[]) (S6.settle) (fun p hp=>.tail _ (.tail _ (.tail _ (hP2 p hp)))) ⟨D2,_,_,rfl,.head _,⟨ns' ++ [1234567890123456789012345],hy1.append (.cons _ _ .nil),fun z hz=>?_,by simp;lia⟩,fun p hp=>S6.ap _ (.head _) p (.tail _ (.tail _ (hP2 p hp)))⟩
  rcases List.mem_append.mp hz with hz | hz
  · exact hy2 z hz
  · rw [List.mem_singleton.mp hz];decide
end
end
section
open PySem.Calls
theorem tk_Fixing_facts (w:World):takerIn (hd.heap_39 w.params) 501 (Str.ofString "facts") = some none:=by kernel_rfl
theorem sat_Fixing (w:World):findIn (hd.heap_39 w.params) (.ref 501) "__setattr__" = some (some (.builtin "object.__setattr__")):=by kernel_rfl
theorem po_Fixing (w:World):plainOver (hd.heap_39 w.params) 501 = true:=by kernel_rfl
theorem c_Fixing {w:World} {P:Led} {v0:Value}:Pure w 3 P (call (.ref 501) [v0]) fun P' r=>∃ x d t0,r = .ref x∧(x,instObj 501 d)∈P'∧(d,dictOf [ent w "facts" t0 v0] 1)∈P':=by
  intro c m own s Q E S hdp hu ret
  have X:=S.X
  refine make (Out:=fun cells P' r=>∃ x d t0,r = .ref x∧(x,instObj 501 d)∈P'∧cells = [(d,dictOf [ent w "facts" t0 v0] 1)]) (K:=hd.heap_39 w.params) rfl (by k_is) (by k_is) (by k_is) (by k_is) (by k_is) S (by lia) (by exact fun x s=>BindsTo.of_eq rfl) (by exact rfl) (by kernel_rfl) ?_ ?kr
  case kr =>
    intro x cells P' s' S' hs hx1
    refine ex3 hx1 ?_;clear hx1;intro y d t0 hy3;refine an3 hy3 ?_;clear hy3;intro e hm hx2
    symm at hx2;subst hx2
    cases e
    exact ret _ _ _ (St.settle S') (fun p hp=>.tail _ (hs p hp)) (mk3 _ _ _ ⟨rfl,.tail _ hm,.head _⟩)
  intro c' s' x dx gN _ _ S'
  dsimp only [List.map] at S'
  with_reducible (refine nameQ ?_;intro _ _;refine eN ?_;intro _ _ _;refine plainObj_wpAny_Assign_Attribute ?_ (by k_dflt rfl);refine ev_lv ‹_› ‹_› LocV.a1 ?_;refine ev_lv ‹_› ‹_› LocV.a0 ?_)
  refine sa (sat_Fixing w) (po_Fixing w) (tk_Fixing_facts w) (hh_Fixing w) ‹_› (.head _) rfl (fun _ _ _=>rfl) rfl (Nat.le_of_ble_eq_true rfl) ?_
  intro s0 tk0 S0
  try dsimp only
  with_reducible (refine (by assumption:Nxt _ _ _ _ _ _ _) _ ?_;refine wpAny_execs_nil ?_;refine (by assumption:Imp _ _) _ _ ?_)
  exact mk4 _ _ [] _ ⟨S0,fun p hp=>hp,rfl,rfl,mk3 _ _ _ ⟨rfl,.head _,rfl⟩⟩
theorem FSet.mono {w:World} {P P':Led} {F:Addr} {cn:Int→Nat} (hs:∀ p∈P,p∈P') (h:FSet w P F cn):FSet w P' F cn:=by
  refine ex6 h ?_;clear h;intro dF es n dS o kv hy4;refine an6 hy4 ?_;clear hy4;intro a1 a2 a3 a4 a5 a6
  exact mk6 dF es n dS o kv ⟨hs _ a1,hs _ a2,a3,hs _ a4,a5,a6⟩
theorem Built.ok {t:T} (h:Built t):OkT (fun x=>(setn t).count x) t :=
  ⟨⟨[],h.sc⟩,fun n hn=>Nat.ne_of_gt (List.count_pos_iff.mpr hn),h.sz⟩
section
variable {w:World} {P:Led}
theorem fixed {a:Addr} {t:T} (hN:Nd w P a t) (hb:Built t):Pure w 40 P (call (.ref 512) [.ref a]) fun P' r=>TR w P' r (fixT (fun x=>(setn t).count x) t):=by
  intro c m own s Q E S hdp hu ret
  have X:=S.X
  refine wpAny_call ?_
  (refine enter (K:=hd.heap_39 _) rfl ‹_› (by k_is) (by k_is) (by first | exact bl1 ‹_› | omega) (by exact BindsTo.of_eq rfl) (by exact rfl) (by kernel_rfl) ?_ ‹_›)
  clear ret S
  intro c' s' gN hd' hu' S'
  dsimp only [List.map] at S'
  have d30:c'.A.depth + 30 < recursionLimit:=by first | exact bl ‹_› ‹_› (by decide) | lia
  have u30:c'.A.units + 8 * 30 < cLine:=by first | exact bl ‹_› ‹_› (by decide) | lia
  have d20:c'.A.depth + 20 < recursionLimit:=by first | exact bl ‹_› ‹_› (by decide) | lia
  have u20:c'.A.units + 8 * 20 < cLine:=by first | exact bl ‹_› ‹_› (by decide) | lia
  have d3:c'.A.depth + 3 < recursionLimit:=by first | exact bl ‹_› ‹_› (by decide) | lia
  have u3:c'.A.units + 8 * 3 < cLine:=by first | exact bl ‹_› ‹_› (by decide) | lia
  clear hdp hu hd' hu'
  with_reducible (refine nameQ ?_;intro _ _;refine eN ?_;intro _ _ _;refine wpAny_Return_some ?_;refine call2 ‹_› ‹_› (g_rebuilt _) (kp_rebuilt _) mm1 ?_ (by k_dflt rfl) (by k_dflt rfl);refine ev_lv ‹_› ‹_› LocV.a0 ?_;refine Attribute_any_ ?_ (by k_dflt rfl);refine call1 ‹_› ‹_› (g_Fixing _) (kp_Fixing _) mm2 ?_ (by k_dflt rfl);refine call1 ‹_› ‹_› (g_facts_of _) (kp_facts_of _) mm3 ?_ (by k_dflt rfl);refine List_ ?_;refine sp1 ?_ (by k_dflt rfl);refine ev_lv ‹_› ‹_› LocV.a0 ?_;refine sp0 ?_;refine nl ‹_› ?_ sl1;intro _ _ _;refine And.intro (St.kin ‹_›) ?_)
  refine useP (facts_of (hN.mono fun p hp=>.tail _ hp) (.head _) hb) ‹_› d20 u20 ?_
  intro r P1 s1 S1 hs1 hx5
  refine ex1 hx5 ?_;clear hx5;intro F hy7;refine an2 hy7 ?_;clear hy7;intro hx6 hF
  symm at hx6;subst hx6
  with_reducible (refine And.intro (St.kin ‹_›) ?_)
  refine useP c_Fixing ‹_› d3 u3 ?_
  intro r P2 s2 S2 hs2 hx8
  refine ex3 hx8 ?_;clear hx8;intro x d t0 hy10;refine an3 hy10 ?_;clear hy10;intro hx9 hx1 hx2
  symm at hx9;subst hx9
  refine kbm_bound S2.F S2.X S2.N (inst_at S2 hx1 hx2) (pg_Fixing w _) (hh_Fixing w) (fmt_501 w) (isfn_491 w) (by kernel_rfl) (by kernel_rfl) (by decide) rfl (fun q h' F' N' lt=>?_)
  have S3:=S2.addP (tk:=s2.toks + 1) F' N' lt
  with_reducible (refine And.intro (St.kin ‹_›) ?_)
  have to3:∀ p∈P,p∈(q,methodObj (.ref 491) (.ref x))::P2:=fun p hp=>.tail _ (hs2 _ (hs1 _ (.tail _ hp)))
  refine useP (rebuilt_c (hN.mono to3) (.head _) ⟨d,t0,.tail _ hx1,.tail _ hx2⟩ (hF.mono fun p hp=>.tail _ (hs2 _ hp)) hb.ok) S3 d30 u30 ?_
  intro r P4 s4 S4 hs4 hT
  with_reducible (refine (by assumption:Abr _ _) _ _ (by k_dflt rfl) ?_;refine (by assumption:Imp _ _) _ _ ?_)
  exact Ends.of (own':=[]) (P':=P4) S4 (fun p hp=>hs4 _ (to3 p hp)) hT
end
end
section
open PySem.Calls
theorem lookup1 {x:Str} {v:Value} {r:List (Str × NameKind)}:(fun y=>List.lookup y [(x,v)].reverse) = asg ((x,.local)::r) [some v]:=by
  funext y
  show List.lookup y [(x,v)] = (if y = x then some v else asg r [] y)
  by_cases h:y = x
  · subst h;simp [List.lookup]
  · rw [if_neg h]
    have:(y == x) = false:=by simpa using h
    simp [List.lookup,this,asg_nil]
theorem lawStart {w:World} {pp:Program} {loose:List Str} {mean:ExcName→Option Value} {mg mb:Str→Option Value} {h₀:Heap} {L f:Addr} {cd:Value} {name x:Str} {r:List (Str × NameKind)} {mo:List (Str × Const)} {body:List Stmt} {v:Value} {s:Shared} {Q:Flow→Shared→Prop} {E:Value→Shared→Prop} (T:Top pp loose mean mg mb h₀) (gN:goodNs ((x,.local)::r) = true) (KX:(hd.heap_39 w.params).In h₀) (K0:Below callerA h₀ [] h₀) (F:Fr h₀ L s.heap fun y=>List.lookup y [(x,v)].reverse)
    (h:∀ c:Cx,goodNs ((x,.local)::r) = true→c.g = h₀→c.A.depth≤310→c.A.units≤100→St w c (asg ((x,.local)::r) [some v]) [] [] s→wpAny (model rw_pq1024_01.row.prog w) c.A (execs body (envX name (fnSc ((x,.local)::r) mo) c.L f cd [])) (fun fl s'=>fl = .ret (.bool true)∧∃ m' own' P',St w c m' own' P' s') (fun _ _=>False) s)
    (hQ:∀ c:Cx,c.g = h₀→c.L = L→c.s0 = s→∀ s' m' own' P',St w c m' own' P' s'→Q (.ret (.bool true)) s') :
    wpAny (model rw_pq1024_01.row.prog w) (callerA.deeper (envOf name (fnSc ((x,.local)::r) mo) L f cd)) (execs body (envOf name (fnSc ((x,.local)::r) mo) L f cd)) Q E s:=by
  let c:Cx:=⟨pp,loose,mean,mg,mb,callerA,h₀,[],h₀,L,callerA.deeper (envOf name (fnSc ((x,.local)::r) mo) L f cd),s⟩
  rw [lookup1 (r:=r)] at F
  have S:St w c (asg ((x,.local)::r) [some v]) [] [] s:=⟨F,fun p hp=>(nomatch hp),fun q hq=>(nomatch hq),List.nodup_nil,KX,T,K0,rfl,⟨_,Around.frames_deeper K0.stack,rfl,rfl⟩,rfl,rfl,rfl⟩
  refine wpAny_mono (h c gN rfl (show callerA.depth + 1≤310 by decide) (show callerA.units + 3≤100 by decide) S) (fun fl s' hh=>?_) fun _ _ e=>e.elim
  refine an2 hh ?_;clear hh;intro hx1 hz2;refine ex3 hz2 ?_;clear hz2;intro m' own' P' S'
  symm at hx1;subst hx1
  exact hQ c rfl rfl rfl s' m' own' P' S'
theorem St.take {w:World} {c:Cx} {m:Str→Option Value} {own P:Led} {s:Shared} {D:Addr} {o:Obj} (S:St w c m own P s) (hm:(D,o)∈P):St w c m ((D,o)::own) (P.filter fun p=>p.1≠D) s:=by
  refine ⟨S.F,fun p hp=>?_,fun q hq p hp=>?_,?_,S.X,S.T,S.B,S.hh,S.fr,S.eg,S.ed,S.eo⟩
  · rcases List.mem_append.mp hp with hp | hp
    · rcases List.mem_cons.mp hp with rfl | hp
      · exact S.N _ (List.mem_append_right _ hm)
      · exact S.N _ (List.mem_append_left _ hp)
    · exact S.N _ (List.mem_append_right _ (List.mem_filter.mp hp).1)
  · refine an2 (List.mem_filter.mp hp) ?_;intro hp1 hp2
    rcases List.mem_cons.mp hq with rfl | hq
    · simpa using hp2
    · exact S.ap q hq p hp1
  · refine List.nodup_cons.mpr ⟨fun h=>?_,S.nd⟩
    refine ex1 (List.mem_map.mp h) ?_;intro q hy3;refine an2 hy3 ?_;clear hy3;intro hq e
    exact S.ap q hq _ hm e.symm
section
variable {w:World} {c:Cx} {own P:Led} {s:Shared} {E:Value→Shared→Prop} {Q:Value→Shared→Prop} {cn:Str} {ns:List (Str × NameKind)} {mo:List (Str × Const)} {vals:List (Option Value)} {a:Addr} {ccd:Value} {cl:List (Str × Addr)} {z1 z2 z3 z4:Option Str}
theorem ev_local {n:Int} {z:Nat} {p1 p2 p3:Pos} (S:St w c (asg ns vals) own P s) (gN:goodNs ns = true) (h1:(Str.ofString "Local",NameKind.globalImplicit)∈ns) (hd:c.A.depth + 10 < recursionLimit) (hu:c.A.units + 100 < cLine)
    (h:∀ r P' s',St w c (asg ns vals) own P' s'→(∀ p∈P,p∈P')→TR w P' r (.loc n)→Q r s') :
    wpAny (model rw_pq1024_01.row.prog w) c.A (eval (.Call (.Name (Str.ofString "Local") p1) [.Constant (.int n) z p2] [] p3) (envX cn (fnSc ns mo) c.L a ccd cl)) Q E s:=by
  refine call1 (x:=Str.ofString "Local") S gN (g_Local _) (kp_Local _) h1 ?_ (by k_dflt rfl)
  refine ev_int S ?_
  intro s1 tk1 S1
  refine ⟨S1.kin,?_⟩
  exact useP mk_loc S1 (by lia) (by lia) h
theorem ev_un {p1 p2 p3:Pos} (S:St w c (asg ns vals) own P s) (gN:goodNs ns = true) (h1:(Str.ofString "Const",NameKind.globalImplicit)∈ns) (h2:(Str.ofString "UNASSIGNED",NameKind.globalImplicit)∈ns) (hd:c.A.depth + 10 < recursionLimit) (hu:c.A.units + 100 < cLine)
    (h:∀ r P' s',St w c (asg ns vals) own P' s'→(∀ p∈P,p∈P')→TR w P' r .cun→Q r s') :
    wpAny (model rw_pq1024_01.row.prog w) c.A (eval (.Call (.Name (Str.ofString "Const") p1) [.Name (Str.ofString "UNASSIGNED") p2] [] p3) (envX cn (fnSc ns mo) c.L a ccd cl)) Q E s:=by
  refine call1 (x:=Str.ofString "Const") S gN (g_Const _) (kp_Const _) h1 ?_ (by k_dflt rfl)
  refine ev_glob S gN (g_UNASSIGNED _) h2 ?_
  refine ⟨S.kin,?_⟩
  exact useP mk_cun S (by lia) (by lia) h
theorem ev_setlam {n l k:Int} {z1 z2 z3 z4:Nat} {p1 p2 p3 p4 p5 p6 p7 p8 p9 p10 p11 p12:Pos} (S:St w c (asg ns vals) own P s) (gN:goodNs ns = true) (h1:(Str.ofString "Local",NameKind.globalImplicit)∈ns) (h2:(Str.ofString "Lambda",NameKind.globalImplicit)∈ns) (h3:(Str.ofString "SetLocal",NameKind.globalImplicit)∈ns) (hd:c.A.depth + 10 < recursionLimit) (hu:c.A.units + 100 < cLine)
    (h:∀ r P' s',St w c (asg ns vals) own P' s'→(∀ p∈P,p∈P')→TR w P' r (.setl n (.lam l [] (.loc k)))→Q r s') :
    wpAny (model rw_pq1024_01.row.prog w) c.A (eval (.Call (.Name (Str.ofString "SetLocal") p1) [.Constant (.int n) z1 p2,.Call (.Name (Str.ofString "Lambda") p3) [.Constant (.int l) z2 p4,.List [] p5,.UnaryOp .USub (.Constant (.int 1) z3 p6) p7,.Call (.Name (Str.ofString "Local") p8) [.Constant (.int k) z4 p9] [] p10] [] p11] [] p12) (envX cn (fnSc ns mo) c.L a ccd cl)) Q E s:=by
  refine call2 (x:=Str.ofString "SetLocal") S gN (g_SetLocal _) (kp_SetLocal _) h3 ?_ (by k_dflt rfl) (by k_dflt rfl)
  refine ev_int S ?_
  intro s1 tk1 S1
  refine call4 (x:=Str.ofString "Lambda") S1 gN (g_Lambda _) (kp_Lambda _) h2 ?_ (by k_dflt rfl) (by k_dflt rfl) (by k_dflt rfl) (by k_dflt rfl)
  refine ev_int S1 ?_
  intro s2 tk2 S2
  refine List_ ?_
  refine sp0 ?_
  refine nl S2 ?_ sl0
  intro Ln s3 S3
  refine UnaryOp_ ?_
  refine ev_int S3 ?_
  intro s4 tk4 S4
  refine negS S4 ?_
  intro s5 tk5 S5
  refine ev_local S5 gN h1 hd hu ?_
  intro r P1 s6 S6 hs6 hT
  refine ⟨S6.kin,?_⟩
  refine useP (mk_lam (hs6 _ (.head _)) .nil hT) S6 (by lia) (by lia) ?_
  intro r2 P2 s7 S7 hs7 hT2
  refine ⟨S7.kin,?_⟩
  refine useP (mk_setl hT2) S7 (by lia) (by lia) ?_
  intro r3 P3 s8 S8 hs8 hT3
  exact h r3 P3 s8 S8 (fun p hp=>hs8 _ (hs7 _ (hs6 _ (.tail _ hp)))) hT3
end
end
section
open PySem.Calls
noncomputable def handT:T:=.call (.lam 90 [91,92] (.seq [.setl 91 (.lam 93 [] (.loc 92)),.call (.loc 91) [],.setl 92 (.lam 94 [] (.loc 91)),.loc 92])) [.cun,.cun]
noncomputable def pairT:T:=.call (.lam 95 [96,97] (.seq [.setl 96 (.lam 98 [] (.loc 97)),.setl 97 (.lam 99 [] (.loc 96)),.loc 97])) [.cun,.cun]
/-- a tree that the law wraps and hands in -/
structure Bt (t:T):Prop where
  b:Built (.lam 79 [80] t)
  s:t.size≤1740
  d:t.dep≤23
theorem bt_hand:Bt handT:=⟨⟨by simp [handT,Sc,Scs],by decide,by decide,by decide,by decide⟩,by decide,by decide⟩
theorem bt_pair:Bt pairT:=⟨⟨by simp [pairT,Sc,Scs],by decide,by decide,by decide,by decide⟩,by decide,by decide⟩
theorem bt_late {a b:Int} {t:T} (h:Bl [80] 1000 1000 a b t) (hs:t.size≤1737) (hd:t.dep≤22):Bt t:=by
  refine ⟨⟨h.sc,?_,?_,by simp only [T.size,List.length_singleton];omega,by simp only [T.dep];omega⟩,by omega,by omega⟩
  · show (79::labs t).Nodup
    exact List.nodup_cons.mpr ⟨fun hm=>by have:=(h.la.2 79 hm).1;omega,h.la.1⟩
  · show (80::binds t).Nodup
    exact List.nodup_cons.mpr ⟨fun hm=>by have:=(h.bi.2 80 hm).1;omega,h.bi.1⟩
theorem cw0.tw8075568018651887793:True:=⟨⟩
theorem cw0.tw9500009369263938202:True:=⟨⟩
theorem cw0.tw4475416697583694037:True:=⟨⟩
theorem cw0.tw10496315129162654332:True:=⟨⟩
theorem cw0.tw215626769636477006:True:=⟨⟩
theorem cw0.tw11150638610672164155:True:=⟨⟩
theorem cw0.tw10820740082894632096:True:=⟨⟩
theorem cw0.tw14328386487255884787:True:=⟨⟩
theorem cw0.tw5581126340148884290:True:=⟨⟩
theorem cw0.tw2661940409954514517:True:=⟨⟩
theorem cw0.tw12565434904586339500:True:=⟨⟩
theorem cw0.tw18348789616503546015:True:=⟨⟩
theorem cw0.tw2226455766435963573:True:=⟨⟩
theorem cw0.tw7403096802716194129:True:=⟨⟩
theorem cw0.tw6407796997175023848:True:=⟨⟩
theorem cw0.tw13523895506850788698:True:=⟨⟩
theorem cw0.tw9102933082955963233:True:=⟨⟩
theorem cw0.tw16267276297377271065:True:=⟨⟩
theorem cw0.tw3920461075409014837:True:=⟨⟩
theorem cw0.tw2330773079912049594:True:=⟨⟩
theorem cw0.tw16969190553492792460:True:=⟨⟩
theorem cw0.tw10527403524915960557:True:=⟨⟩
theorem cw0.tw944338391855811946:True:=⟨⟩
theorem cw0.tw9624515833802061201:True:=⟨⟩
theorem cw0.tw10395265782358634360:True:=⟨⟩
theorem cw0.tw602907941796904866:True:=⟨⟩
theorem cw0.tw13953004344456655260:True:=⟨⟩
theorem cw0.tw12467960159598188800:True:=⟨⟩
theorem cw0.tw5121686067538091623:True:=⟨⟩
theorem cw0.tw1326255076926169503:True:=⟨⟩
theorem cw0.tw13641700584613103273:True:=⟨⟩
theorem cw0.tw5849536733369754724:True:=⟨⟩
theorem cw0.tw13873213470609819775:True:=⟨⟩
theorem cw0.tw347605934357917349:True:=⟨⟩
theorem cw0.tw17981454563005042000:True:=⟨⟩
theorem cw0.tw8703375971292068582:True:=⟨⟩
theorem cw0.tw817100766485457501:True:=⟨⟩
theorem cw0.tw6499400698874481768:True:=⟨⟩
theorem cw0.tw6807033625986032022:True:=⟨⟩
theorem cw0.tw9170958426715267767:True:=⟨⟩
theorem cw0.tw4070356938464387193:True:=⟨⟩
theorem cw0.tw8524595966408410146:True:=⟨⟩
theorem cw0.tw12432823385162652533:True:=⟨⟩
theorem cw0.tw12841377349818777906:True:=⟨⟩
theorem cw0.tw17085214813019316608:True:=⟨⟩
theorem cw0.tw2886191020054775302:True:=⟨⟩
theorem cw0.tw7434427675283006042:True:=⟨⟩
theorem cw0.tw12269708270228334551:True:=⟨⟩
theorem cw0.tw4972716696904304395:True:=⟨⟩
theorem cw0.tw12394558659679599276:True:=⟨⟩
theorem cw0.tw13640429956666515228:True:=⟨⟩
theorem cw0.tw7218371832481641821:True:=⟨⟩
theorem cw0.tw4388930515756682611:True:=⟨⟩
theorem cw0.tw5537155841864412104:True:=⟨⟩
theorem cw0.tw902643628504208689:True:=⟨⟩
theorem cw0.tw15342208254078917377:True:=⟨⟩
theorem cw0.tw17147202340803966096:True:=⟨⟩
theorem cw0.tw14321895299920856274:True:=⟨⟩
theorem cw0.tw8560016451990023608:True:=⟨⟩
theorem cw0.tw17387841515410723813:True:=⟨⟩
theorem cw0.tw10346477001495986186:True:=⟨⟩
theorem cw0.tw4027894646965268872:True:=⟨⟩
theorem cw0.tw8673524420730943517:True:=⟨⟩
theorem cw0.tw7501212613465999926:True:=⟨⟩
theorem cw0.tw12311755989865649525:True:=⟨⟩
theorem cw0.tw877015293049563454:True:=⟨⟩
theorem cw0.tw10376490854890710391:True:=⟨⟩
theorem cw0.tw13609173608386561646:True:=⟨⟩
theorem cw0.tw9403576114801457650:True:=⟨⟩
theorem cw0.tw11226341371112175081:True:=⟨⟩
theorem cw0.tw822310331465411787:True:=⟨⟩
theorem cw0.tw14611924321090256651:True:=⟨⟩
theorem cw0.tw1167142392535405846:True:=⟨⟩
theorem cw0.tw16106571296843231743:True:=⟨⟩
theorem cw0.tw8775141262470195979:True:=⟨⟩
theorem cw0.tw7613171661505271725:True:=⟨⟩
theorem cw0.tw13981079105368732500:True:=⟨⟩
theorem cw0.tw13382548129710669725:True:=⟨⟩
theorem cw0.tw7282953070784985754:True:=⟨⟩
theorem cw0.tw10098992495433625583:True:=⟨⟩
theorem cw0.tw17196729411846931720:True:=⟨⟩
theorem cw0.tw10536177063083251931:True:=⟨⟩
theorem cw0.tw11184499341743639626:True:=⟨⟩
theorem cw0.tw6534998301853843160:True:=⟨⟩
theorem cw0.tw13392789309051132632:True:=⟨⟩
theorem cw0.tw13114992720358231873:True:=⟨⟩
theorem cw0.tw17331618238913684409:True:=⟨⟩
theorem cw0.tw15923706361076367750:True:=⟨⟩
theorem cw0.tw12533068210905336797:True:=⟨⟩
theorem cw0.tw10574112839835140774:True:=⟨⟩
theorem cw0.tw6019719212852315260:True:=⟨⟩
theorem cw0.tw16711766580464767133:True:=⟨⟩
theorem cw0.tw2797110930440312658:True:=⟨⟩
theorem cw0.tw17338887085829597898:True:=⟨⟩
theorem cw0.tw11869525747844648884:True:=⟨⟩
theorem cw0.tw15679945187557608007:True:=⟨⟩
theorem cw0.tw5345769245191412184:True:=⟨⟩
theorem cw0.tw15145583111519934688:True:=⟨⟩
theorem cw0.tw3572119714801617308:True:=⟨⟩
theorem cw0.tw14981249315342300034:True:=⟨⟩
theorem cw0.tw1999193586199601124:True:=⟨⟩
theorem cw0.tw313339844371919261:True:=⟨⟩
theorem cw0.tw12970640446976412700:True:=⟨⟩
theorem cw0.tw15210154660048611729:True:=⟨⟩
theorem cw0.tw6883108737996219398:True:=⟨⟩
theorem cw0.tw13144281447506470606:True:=⟨⟩
theorem cw0.tw15847666574310254060:True:=⟨⟩
theorem cw0.tw11865818121811704079:True:=⟨⟩
theorem cw0.tw13689298409074000457:True:=⟨⟩
theorem cw0.tw4742755629932096350:True:=⟨⟩
theorem cw0.tw2522438570200125509:True:=⟨⟩
theorem cw0.tw9064864934048834625:True:=⟨⟩
theorem cw0.tw16522769876268417548:True:=⟨⟩
theorem cw0.tw14098564058545090472:True:=⟨⟩
theorem cw0.tw3761797027683908538:True:=⟨⟩
theorem cw0.tw14148842465826004497:True:=⟨⟩
theorem cw0.tw10608520309930363895:True:=⟨⟩
theorem cw0.tw4998995038447316051:True:=⟨⟩
theorem cw0.tw6760505836617629761:True:=⟨⟩
theorem cw0.tw15129269860032191094:True:=⟨⟩
theorem cw0.tw5428804530079572355:True:=⟨⟩
theorem cw0.tw524996389203241167:True:=⟨⟩
theorem cw0.tw11137279627414452032:True:=⟨⟩
theorem cw0.tw15873730298659749297:True:=⟨⟩
theorem cw0.tw17373720160243107058:True:=⟨⟩
theorem cw0.tw4810923568748397578:True:=⟨⟩
theorem cw0.tw10952437950456907558:True:=⟨⟩
theorem cw0.tw12035358776219921802:True:=⟨⟩
theorem cw0.tw4815077302571725420:True:=⟨⟩
theorem cw0.tw16482240033502735547:True:=⟨⟩
theorem cw0.tw16449771704697885768:True:=⟨⟩
theorem cw0.tw14259372713139560890:True:=⟨⟩
theorem cw0.tw17755093846557779029:True:=⟨⟩
theorem cw0.tw13913995255717623728:True:=⟨⟩
theorem cw0.tw9892219111217558640:True:=⟨⟩
theorem cw0.tw16524170136778715264:True:=⟨⟩
theorem cw0.tw4998758772946935460:True:=⟨⟩
theorem cw0.tw10256356447629369670:True:=⟨⟩
theorem cw0.tw17902094728091584872:True:=⟨⟩
theorem cw0.tw6613337501067380710:True:=⟨⟩
theorem cw0.tw17334379046053338998:True:=⟨⟩
theorem cw0.tw7875515976247395492:True:=⟨⟩
theorem cw0.tw3476215489329261502:True:=⟨⟩
theorem cw0.tw1461527366143697298:True:=⟨⟩
theorem cw0.tw4287769641030692571:True:=⟨⟩
theorem cw0.tw5172405745948194899:True:=⟨⟩
theorem cw0.tw1148668283736709882:True:=⟨⟩
theorem cw0.tw8471854755883606198:True:=⟨⟩
theorem cw0.tw8950633014474654286:True:=⟨⟩
theorem cw0.tw12209220632661302401:True:=⟨⟩
theorem cw0.tw16814135710344062643:True:=⟨⟩
theorem cw0.tw10341843919700769868:True:=⟨⟩
theorem cw0.tw12349713919053179380:True:=⟨⟩
theorem cw0.tw6085141897307639436:True:=⟨⟩
theorem cw0.tw14278929064343759763:True:=⟨⟩
theorem cw0.tw2104655161440490667:True:=⟨⟩
theorem cw0.tw4430667486232332760:True:=⟨⟩
theorem cw0.tw15950994594586102396:True:=⟨⟩
theorem cw0.tw12916617313554815056:True:=⟨⟩
theorem cw0.tw8803623487102948184:True:=⟨⟩
theorem cw0.tw13726348650266982658:True:=⟨⟩
theorem cw0.tw5319293046592418996:True:=⟨⟩
theorem cw0.tw3787887420838482537:True:=⟨⟩
theorem cw0.tw14167591660543346582:True:=⟨⟩
theorem cw0.tw9558713695163433648:True:=⟨⟩
theorem cw0.tw17621500619238015564:True:=⟨⟩
theorem cw0.tw9548453309034848607:True:=⟨⟩
theorem cw0.tw9753239013055672836:True:=⟨⟩
theorem cw0.tw14150797538312111888:True:=⟨⟩
theorem cw0.tw10193965539910826732:True:=⟨⟩
theorem cw0.tw10633984297897278632:True:=⟨⟩
theorem cw0.tw17832860171377879934:True:=⟨⟩
theorem cw0.tw16326188850758028644:True:=⟨⟩
theorem cw0.tw10748223031283077886:True:=⟨⟩
theorem cw0.tw2475522021225883563:True:=⟨⟩
theorem cw0.tw6731438574385413163:True:=⟨⟩
theorem cw0.tw14785198714414695918:True:=⟨⟩
theorem cw0.tw367769447457761667:True:=⟨⟩
theorem cw0.tw9214358020428599085:True:=⟨⟩
theorem cw0.tw15308624768455019386:True:=⟨⟩
theorem cw0.tw6883735801669428501:True:=⟨⟩
theorem cw0.tw3362986899489163297:True:=⟨⟩
theorem cw0.tw11460892605847310848:True:=⟨⟩
theorem cw0.tw3750019732392432875:True:=⟨⟩
theorem cw0.tw16082640181065542940:True:=⟨⟩
theorem cw0.tw17630192813561038093:True:=⟨⟩
theorem cw0.tw5950788765928710673:True:=⟨⟩
theorem cw0.tw5005789884130283913:True:=⟨⟩
theorem cw0.tw12010405828832850805:True:=⟨⟩
theorem cw0.tw16084877504727494608:True:=⟨⟩
theorem cw0.tw17615163595145339651:True:=⟨⟩
theorem cw0.tw12131808800104574349:True:=⟨⟩
theorem cw0.tw4334064203225182611:True:=⟨⟩
theorem cw0.tw4608305505106607716:True:=⟨⟩
theorem cw0.tw9009602138000767247:True:=⟨⟩
theorem cw0.tw5606207676920311861:True:=⟨⟩
theorem cw0.tw1640431854841610278:True:=⟨⟩
theorem cw0.tw14923164693933978211:True:=⟨⟩
theorem cw0.tw7922774381962336845:True:=⟨⟩
theorem cw0.tw8919885959313894098:True:=⟨⟩
theorem cw0.tw17553072218843335974:True:=⟨⟩
theorem cw0.tw4631359573981195353:True:=⟨⟩
theorem cw0.tw3339113857787124071:True:=⟨⟩
theorem cw0.tw5101467155016972213:True:=⟨⟩
theorem cw0.tw3393698791891359691:True:=⟨⟩
theorem cw0.tw3271911178089878886:True:=⟨⟩
theorem cw0.tw15606336060405312953:True:=⟨⟩
theorem cw0.tw5158234549863251830:True:=⟨⟩
theorem cw0.tw428595057898517504:True:=⟨⟩
theorem cw0.tw6452521393265403868:True:=⟨⟩
theorem cw0.tw10548759276251348447:True:=⟨⟩
theorem cw0.tw2374013098763547374:True:=⟨⟩
theorem cw0.tw11675000027344926811:True:=⟨⟩
theorem cw0.tw12930540744544113153:True:=⟨⟩
theorem cw0.tw4715084797293995512:True:=⟨⟩
theorem cw0.tw13679241161755985355:True:=⟨⟩
theorem cw0.tw14011722704082443021:True:=⟨⟩
theorem cw0.tw16264935778767477387:True:=⟨⟩
theorem cw0.tw11369359135670826636:True:=⟨⟩
theorem cw0.tw2254800408783344233:True:=⟨⟩
theorem cw0.tw1054250194899641632:True:=⟨⟩
theorem cw0.tw7424094505626520357:True:=⟨⟩
theorem cw0.tw11699687236430759817:True:=⟨⟩
theorem cw0.tw2890294912607590380:True:=⟨⟩
theorem cw0.tw8259033157362987339:True:=⟨⟩
theorem cw0.tw13092333411706333114:True:=⟨⟩
theorem cw0.tw2811096039413727998:True:=⟨⟩
theorem cw0.tw17056303691448769967:True:=⟨⟩
theorem cw0.tw1079598293242544074:True:=⟨⟩
theorem cw0.tw8154995481928641724:True:=⟨⟩
theorem cw0.tw12153447823862588903:True:=⟨⟩
theorem cw0.tw4571255584508422995:True:=⟨⟩
theorem cw0.tw5730454591541324925:True:=⟨⟩
theorem cw0.tw950828900577088699:True:=⟨⟩
theorem cw0.tw13076550773548838443:True:=⟨⟩
theorem cw0.tw14132573787125674095:True:=⟨⟩
theorem cw0.tw2997401344014963122:True:=⟨⟩
theorem cw0.tw10352810684376383706:True:=⟨⟩
theorem cw0.tw12044433370675626690:True:=⟨⟩
theorem cw0.tw12347260834891483627:True:=⟨⟩
theorem cw0.tw1669253605213011939:True:=⟨⟩
theorem cw0.tw10515047590954951007:True:=⟨⟩
theorem cw0.tw12534663475041373766:True:=⟨⟩
theorem cw0.tw12786171894445600734:True:=⟨⟩
theorem cw0.tw815977478225871203:True:=⟨⟩
theorem cw0.tw362441216856844349:True:=⟨⟩
theorem cw0.tw6019815400957175563:True:=⟨⟩
theorem cw0.tw15818203744375280022:True:=⟨⟩
theorem cw0.tw12893335363686733688:True:=⟨⟩
theorem cw0.tw9786680634830819216:True:=⟨⟩
theorem cw0.tw12485334356941602469:True:=⟨⟩
theorem cw0.tw15485802817818829867:True:=⟨⟩
theorem cw0.tw16244754990114993232:True:=⟨⟩
theorem cw0.tw5386630531540429263:True:=⟨⟩
theorem cw0.tw14354082795565424754:True:=⟨⟩
theorem cw0.tw15172562536277539559:True:=⟨⟩
theorem cw0.tw6185495148094577663:True:=⟨⟩
theorem cw0.tw10323928858252193240:True:=⟨⟩
theorem cw0.tw12048641802173671346:True:=⟨⟩
theorem cw0.tw10779857993390986372:True:=⟨⟩
theorem cw0.tw12319101261212569542:True:=⟨⟩
theorem cw0.tw11709324209219393176:True:=⟨⟩
theorem cw0.tw16538820941885896036:True:=⟨⟩
theorem cw0.tw12142167511727175145:True:=⟨⟩
theorem cw0.tw4929110229013146758:True:=⟨⟩
theorem cw0.tw12012703493298404952:True:=⟨⟩
theorem cw0.tw8838031861282587546:True:=⟨⟩
theorem cw0.tw123745204596339054:True:=⟨⟩
theorem cw0.tw13656543275768926936:True:=⟨⟩
theorem cw0.tw15351382090264101907:True:=⟨⟩
theorem cw0.tw15009683663640012947:True:=⟨⟩
theorem cw0.tw6396369335073372581:True:=⟨⟩
theorem cw0.tw16762827822794724374:True:=⟨⟩
theorem cw0.tw9767853176935479692:True:=⟨⟩
theorem cw0.tw5858289171958240433:True:=⟨⟩
theorem cw0.tw3966715285517135724:True:=⟨⟩
theorem cw0.tw484307536694682084:True:=⟨⟩
theorem cw0.tw8074850581489661747:True:=⟨⟩
theorem cw0.tw7112005544871605783:True:=⟨⟩
theorem cw0.tw4451024573743021624:True:=⟨⟩
theorem cw0.tw7933023660103778478:True:=⟨⟩
theorem cw0.tw2695004364893541591:True:=⟨⟩
theorem cw0.tw18163867333387845911:True:=⟨⟩
theorem cw0.tw14904989735001470410:True:=⟨⟩
theorem cw0.tw16001201328436214188:True:=⟨⟩
theorem cw0.tw15109531332689855728:True:=⟨⟩
theorem cw0.tw2104730861802867542:True:=⟨⟩
theorem cw0.tw17597717180695917786:True:=⟨⟩
theorem cw0.tw1469144405284945690:True:=⟨⟩
theorem cw0.tw10804712807507036436:True:=⟨⟩
theorem cw0.tw3966051024196910662:True:=⟨⟩
theorem cw0.tw18196729204965262163:True:=⟨⟩
theorem cw0.tw13245291729199489137:True:=⟨⟩
theorem cw0.tw17976817570774590558:True:=⟨⟩
theorem cw0.tw9238384197269171086:True:=⟨⟩
theorem cw0.tw12531262880962120953:True:=⟨⟩
theorem cw0.tw8497060915549319702:True:=⟨⟩
theorem cw0.tw8641018919078340136:True:=⟨⟩
theorem cw0.tw17184043436530153202:True:=⟨⟩
theorem cw0.tw6528292950788772938:True:=⟨⟩
theorem cw0.tw15526689459270347709:True:=⟨⟩
theorem cw0.tw16278567272857149379:True:=⟨⟩
theorem cw0.tw7605353603948667861:True:=⟨⟩
theorem cw0.tw12474265409930257993:True:=⟨⟩
theorem cw0.tw15680159756817099546:True:=⟨⟩
theorem cw0.tw5770215439242714470:True:=⟨⟩
theorem cw0.tw3059000905035918795:True:=⟨⟩
theorem cw0.tw12369769327728221345:True:=⟨⟩
theorem cw0.tw13266592280634471556:True:=⟨⟩
theorem cw0.tw3216727502066331167:True:=⟨⟩
theorem cw0.tw2520452523233495205:True:=⟨⟩
theorem cw0.tw13517367910040097278:True:=⟨⟩
theorem cw0.tw7822693959283539757:True:=⟨⟩
theorem cw0.tw12590795970217377193:True:=⟨⟩
theorem cw0.tw1915852023046073535:True:=⟨⟩
theorem cw0.tw8103298361787366201:True:=⟨⟩
theorem cw0.tw2364865432344255131:True:=⟨⟩
theorem cw0.tw17996316491764242398:True:=⟨⟩
theorem cw0.tw2731239427454584747:True:=⟨⟩
theorem cw0.tw2905887812650475916:True:=⟨⟩
theorem cw0.tw13996530763409120618:True:=⟨⟩
theorem cw0.tw14727498104293972609:True:=⟨⟩
theorem cw0.tw5369543568982421994:True:=⟨⟩
theorem cw0.tw2995031701976144580:True:=⟨⟩
theorem cw0.tw11637078669378047933:True:=⟨⟩
theorem cw0.tw11251365035203941030:True:=⟨⟩
theorem cw0.tw1507122921868351405:True:=⟨⟩
theorem cw0.tw1297431656079326156:True:=⟨⟩
theorem cw0.tw8122195990452429786:True:=⟨⟩
theorem cw0.tw529242527445120651:True:=⟨⟩
theorem cw0.tw3040429497007995783:True:=⟨⟩
theorem cw0.tw14697934853565915207:True:=⟨⟩
theorem cw0.tw10809447563039052859:True:=⟨⟩
theorem cw0.tw3213015532389052609:True:=⟨⟩
theorem cw0.tw6273870868258584465:True:=⟨⟩
theorem cw0.tw2174991574450361892:True:=⟨⟩
theorem cw0.tw15536858148861368377:True:=⟨⟩
theorem cw0.tw6482613275226018982:True:=⟨⟩
theorem cw0.tw6158309007557526583:True:=⟨⟩
theorem cw0.tw14635391719054729394:True:=⟨⟩
theorem cw0.tw7377432488093110043:True:=⟨⟩
theorem cw0.tw4507266658165563139:True:=⟨⟩
theorem cw0.tw8696954362510975197:True:=⟨⟩
theorem cw0.tw9746445756499136322:True:=⟨⟩
theorem cw0.tw16661871025584172895:True:=⟨⟩
theorem cw0.tw6925458451263947462:True:=⟨⟩
theorem cw0.tw54006333415600657:True:=⟨⟩
theorem cw0.tw9003782913691446937:True:=⟨⟩
theorem cw0.tw7983160284752800162:True:=⟨⟩
theorem cw0.tw4291495814774505901:True:=⟨⟩
theorem cw0.tw9190900329709891815:True:=⟨⟩
theorem cw0.tw10180506123289273352:True:=⟨⟩
theorem cw0.tw16731829927135659214:True:=⟨⟩
theorem cw0.tw3963753622261779285:True:=⟨⟩
theorem cw0.tw15550702337211366796:True:=⟨⟩
theorem cw0.tw397256764580250586:True:=⟨⟩
theorem cw0.tw16404741133763244300:True:=⟨⟩
theorem cw0.tw17476057387596115920:True:=⟨⟩
theorem cw0.tw425032374543285145:True:=⟨⟩
theorem cw0.tw6852943288651978381:True:=⟨⟩
theorem cw0.tw16968170473113026877:True:=⟨⟩
theorem cw0.tw14929184026844254201:True:=⟨⟩
theorem cw0.tw10477210742207980136:True:=⟨⟩
theorem cw0.tw16700821782586340033:True:=⟨⟩
theorem cw0.tw577734498094934342:True:=⟨⟩
theorem cw0.tw8493733335946394170:True:=⟨⟩
theorem cw0.tw16641385032557950447:True:=⟨⟩
theorem cw0.tw451259158805960030:True:=⟨⟩
theorem cw0.tw9653092264900280302:True:=⟨⟩
theorem cw0.tw17686161496137562849:True:=⟨⟩
theorem cw0.tw18353507201489530941:True:=⟨⟩
theorem cw0.tw9743261782253820404:True:=⟨⟩
theorem cw0.tw1835683968718871030:True:=⟨⟩
theorem cw0.tw12354122719818517306:True:=⟨⟩
theorem cw0.tw14728977895766173897:True:=⟨⟩
theorem cw0.tw18348982905601779143:True:=⟨⟩
theorem cw0.tw1833180894624079155:True:=⟨⟩
theorem cw0.tw532819096495737327:True:=⟨⟩
theorem cw0.tw4874450987918252040:True:=⟨⟩
theorem cw0.tw18047883473044678189:True:=⟨⟩
theorem cw0.tw4421756511243042654:True:=⟨⟩
theorem cw0.tw2740772284508116890:True:=⟨⟩
theorem cw0.tw12882444491032435831:True:=⟨⟩
theorem cw0.tw350907473462168681:True:=⟨⟩
theorem cw0.tw15862767379234136571:True:=⟨⟩
theorem cw0.tw5866233724019425366:True:=⟨⟩
theorem cw0.tw6736961787097594322:True:=⟨⟩
theorem cw0.tw4684463749573128977:True:=⟨⟩
theorem cw0.tw9706495421360807523:True:=⟨⟩
theorem cw0.tw5733474557331041479:True:=⟨⟩
theorem cw0.tw12612286699149403153:True:=⟨⟩
theorem cw0.tw16967872100322697783:True:=⟨⟩
theorem cw0.tw18242844646843395189:True:=⟨⟩
theorem cw0.tw12321872818911116478:True:=⟨⟩
theorem cw0.tw3096381479661503885:True:=⟨⟩
theorem cw0.tw6378249009140969158:True:=⟨⟩
theorem cw0.tw4294916845721301560:True:=⟨⟩
theorem cw0.tw9405684329139661453:True:=⟨⟩
theorem cw0.tw15993720673153535992:True:=⟨⟩
theorem cw0.tw15193324375986030377:True:=⟨⟩
theorem cw0.tw16024348278098873643:True:=⟨⟩
theorem cw0.tw16640709525737465172:True:=⟨⟩
theorem cw0.tw15164561702904185154:True:=⟨⟩
theorem cw0.tw4539966040291222157:True:=⟨⟩
theorem cw0.tw6387550142774393694:True:=⟨⟩
theorem cw0.tw10210973962868052597:True:=⟨⟩
theorem cw0.tw11693977710747922430:True:=⟨⟩
theorem cw0.tw10339049153610401265:True:=⟨⟩
theorem cw0.tw11902026085655175712:True:=⟨⟩
theorem cw0.tw513114580366991215:True:=⟨⟩
theorem cw0.tw16552907916141865738:True:=⟨⟩
theorem cw0.tw9638972674184653122:True:=⟨⟩
theorem cw0.tw8343572042979874687:True:=⟨⟩
theorem cw0.tw17546795490936530194:True:=⟨⟩
theorem cw0.tw12627707506597337538:True:=⟨⟩
theorem cw0.tw16648735664140426526:True:=⟨⟩
theorem cw0.tw1067901584383134005:True:=⟨⟩
theorem cw0.tw14828465862516695833:True:=⟨⟩
theorem cw0.tw895409528332991011:True:=⟨⟩
theorem cw0.tw9118703749448093251:True:=⟨⟩
theorem cw0.tw15059220763817997558:True:=⟨⟩
theorem cw0.tw12915351994625537022:True:=⟨⟩
theorem cw0.tw16105196248181264856:True:=⟨⟩
theorem cw0.tw13455824629889366106:True:=⟨⟩
theorem cw0.tw8817810526037293253:True:=⟨⟩
theorem cw0.tw3620613379912780816:True:=⟨⟩
theorem cw0.tw11372344996977978086:True:=⟨⟩
theorem cw0.tw14089931122186141018:True:=⟨⟩
theorem cw0.tw5769553371072634243:True:=⟨⟩
theorem cw0.tw11724036650922429035:True:=⟨⟩
theorem cw0.tw2174684470312679804:True:=⟨⟩
theorem cw0.tw10960940612491819620:True:=⟨⟩
theorem cw0.tw4632785938259411340:True:=⟨⟩
theorem cw0.tw1404062997036168927:True:=⟨⟩
theorem cw0.tw18275927789544690803:True:=⟨⟩
theorem cw0.tw10201086452955929425:True:=⟨⟩
theorem cw0.tw11490427142118165693:True:=⟨⟩
theorem cw0.tw17611778180667977911:True:=⟨⟩
theorem cw0.tw4203323616639529575:True:=⟨⟩
theorem cw0.tw380351310023563361:True:=⟨⟩
theorem cw0.tw8169881501981428352:True:=⟨⟩
theorem cw0.tw17966382622377337361:True:=⟨⟩
theorem cw0.tw4198185017699212785:True:=⟨⟩
theorem cw0.tw2853901884108576360:True:=⟨⟩
theorem cw0.tw10918490902254641704:True:=⟨⟩
theorem cw0.tw8047068793472719122:True:=⟨⟩
theorem cw0.tw17674253068843939846:True:=⟨⟩
theorem cw0.tw8310065856859780345:True:=⟨⟩
theorem cw0.tw14628273378289068354:True:=⟨⟩
theorem cw0.tw18101584419296757836:True:=⟨⟩
theorem cw0.tw1858540437673139062:True:=⟨⟩
theorem cw0.tw12218062536725625068:True:=⟨⟩
theorem cw0.tw11477284358424533088:True:=⟨⟩
theorem cw0.tw11594310953297557672:True:=⟨⟩
theorem cw0.tw12719929938487414445:True:=⟨⟩
theorem cw0.tw336255770339467851:True:=⟨⟩
theorem cw0.tw3353566699296151773:True:=⟨⟩
theorem cw0.tw15676491997419366216:True:=⟨⟩
theorem cw0.tw15572278230096064595:True:=⟨⟩
theorem cw0.tw14393719007554764994:True:=⟨⟩
theorem cw0.tw18310342175683850010:True:=⟨⟩
theorem cw0.tw11863442780336709132:True:=⟨⟩
theorem cw0.tw262364955175280433:True:=⟨⟩
theorem cw0.tw4649114408719635309:True:=⟨⟩
theorem cw0.tw10390640475618574095:True:=⟨⟩
theorem cw0.tw4201675482582714139:True:=⟨⟩
theorem cw0.tw1042794446001152318:True:=⟨⟩
theorem cw0.tw5181185101874103439:True:=⟨⟩
theorem cw0.tw11855063806734162551:True:=⟨⟩
theorem cw0.tw13640973337743727629:True:=⟨⟩
theorem cw0.tw6039632520327093604:True:=⟨⟩
theorem cw0.tw15683368172733357899:True:=⟨⟩
theorem cw0.tw6301594879699560676:True:=⟨⟩
theorem cw0.tw6295497303890485131:True:=⟨⟩
theorem cw0.tw15051145481554435430:True:=⟨⟩
theorem cw0.tw11848121986021896624:True:=⟨⟩
theorem cw0.tw4053869617727223516:True:=⟨⟩
theorem cw0.tw16464388390658376674:True:=⟨⟩
theorem cw0.tw5113112900371835692:True:=⟨⟩
theorem cw0.tw5021521310532455951:True:=⟨⟩
theorem cw0.tw5933664334125562331:True:=⟨⟩
theorem cw0.tw442717460055823347:True:=⟨⟩
theorem cw0.tw3405622368824514496:True:=⟨⟩
theorem cw0.tw7051675212942627317:True:=⟨⟩
theorem cw0.tw15000455660052210089:True:=⟨⟩
theorem cw0.tw7188659221457805881:True:=⟨⟩
theorem cw0.tw15164451825136937445:True:=⟨⟩
theorem cw0.tw10113061955732427082:True:=⟨⟩
theorem cw0.tw5144088228889941846:True:=⟨⟩
theorem cw0.tw10047039850301902699:True:=⟨⟩
theorem cw0.tw4761336274352936290:True:=⟨⟩
theorem cw0.tw10265223050370441847:True:=⟨⟩
theorem cw0.tw619629516611752636:True:=⟨⟩
theorem cw0.tw12585615582175773512:True:=⟨⟩
theorem cw0.tw346230190094579209:True:=⟨⟩
theorem cw0.tw9444869707240938628:True:=⟨⟩
theorem cw0.tw15373123176880957478:True:=⟨⟩
theorem cw0.tw10972834378254630599:True:=⟨⟩
theorem cw0.tw4475253116036100409:True:=⟨⟩
theorem cw0.tw10956684841351063701:True:=⟨⟩
theorem cw0.tw17069631914796104572:True:=⟨⟩
theorem cw0.tw13381447228809164441:True:=⟨⟩
theorem cw0.tw396173854583576237:True:=⟨⟩
theorem cw0.tw5737365185346572912:True:=⟨⟩
theorem cw0.tw4173622145859658509:True:=⟨⟩
theorem cw0.tw3649231223628659356:True:=⟨⟩
theorem cw0.tw6668211103138556561:True:=⟨⟩
theorem cw0.tw12626670474374554017:True:=⟨⟩
theorem cw0.tw8190625727998088851:True:=⟨⟩
theorem cw0.tw4873411905838217913:True:=⟨⟩
theorem cw0.tw2884173505221680589:True:=⟨⟩
theorem cw0.tw14083451103954416187:True:=⟨⟩
theorem cw0.tw2319804454115581235:True:=⟨⟩
theorem cw0.tw5210750255830963459:True:=⟨⟩
theorem cw0.tw16517280348821839700:True:=⟨⟩
theorem cw0.tw9579569120623746937:True:=⟨⟩
theorem cw0.tw6837043290556071961:True:=⟨⟩
theorem cw0.tw3131713349802766606:True:=⟨⟩
theorem cw0.tw3251901163704927602:True:=⟨⟩
theorem cw0.tw4297596279262979220:True:=⟨⟩
theorem cw0.tw339421043741692798:True:=⟨⟩
theorem cw0.tw4372030526521501013:True:=⟨⟩
theorem cw0.tw18184545322255928556:True:=⟨⟩
theorem cw0.tw4141760534567522499:True:=⟨⟩
theorem cw0.tw1575707642572027984:True:=⟨⟩
theorem cw0.tw5117383897868499531:True:=⟨⟩
theorem cw0.tw884650009833856327:True:=⟨⟩
theorem cw0.tw2044749170808871612:True:=⟨⟩
theorem cw0.tw3744169290437780057:True:=⟨⟩
theorem cw0.tw10605624139665587160:True:=⟨⟩
theorem cw0.tw5703463806195555340:True:=⟨⟩
theorem cw0.tw6312708349603497786:True:=⟨⟩
theorem cw0.tw13083765516922714250:True:=⟨⟩
theorem cw0.tw697398596893116671:True:=⟨⟩
theorem cw0.tw4704006188217706167:True:=⟨⟩
theorem cw0.tw14958846621248990642:True:=⟨⟩
theorem cw0.tw9522368302923710071:True:=⟨⟩
theorem cw0.tw7239320851132542601:True:=⟨⟩
theorem cw0.tw18419446339940165840:True:=⟨⟩
theorem cw0.tw3874412351009943625:True:=⟨⟩
theorem cw0.tw13518886635165229703:True:=⟨⟩
theorem cw0.tw17075660294529407529:True:=⟨⟩
theorem cw0.tw13612907352967411394:True:=⟨⟩
theorem cw0.tw7147943355920930469:True:=⟨⟩
theorem cw0.tw916483602106922343:True:=⟨⟩
theorem cw0.tw3844393273548541474:True:=⟨⟩
theorem cw0.tw16597051645008415858:True:=⟨⟩
theorem cw0.tw10188754608371873933:True:=⟨⟩
theorem cw0.tw17332535234892346735:True:=⟨⟩
theorem cw0.tw6231776025575054124:True:=⟨⟩
theorem cw0.tw8716717303091003480:True:=⟨⟩
theorem cw0.tw4793424636877063784:True:=⟨⟩
theorem cw0.tw361227033920665074:True:=⟨⟩
theorem cw0.tw10527105059103223879:True:=⟨⟩
theorem cw0.tw13235184511096932306:True:=⟨⟩
theorem cw0.tw11912294171424136874:True:=⟨⟩
theorem cw0.tw7985787188685485056:True:=⟨⟩
set_option Elab.async true in
theorem cw0:rw_pq1024_01.Holds:=by
  w_on;o_law;o_head (kHook Mine.hd.heap_39 Mine.adr (fun _=>by kernel_rfl));(case hw=>w_witness2)
  k_go0
  try dsimp only
  rename_i KX _ _ _ T _ _ _ _ _ _ _ _ _ ns _ _ _ _ _ _ _ la us _ hL _ _ _ hI _ hcond _ K0 _ h₁ F N0
  rename World=>w
  refine lawStart T (by kernel_rfl) KX K0 F ?_ ?_
  case refine_2 =>
    intro c hcg hcL hcs s' m' own' P' S
    try dsimp only
    refine ⟨.inl ⟨_,.bool true,[],rfl,fun cls=>?_,?_,?_,fun _=>⟨List.nodup_nil,fun a h=>nomatch h⟩⟩,fun b o e=>S.F.keep b o (hcg ▸ e),S.eo.trans (by rw [hcs]),S.eg.trans (by rw [hcs];assumption)⟩
    · rfl
    · exact .bool _
    · kernel_rfl
  intro c gN hcg hdp hu S
  have hn63:us.length≤63:=by have:=hI.length;omega
  have X:=S.X
  have d1:c.A.depth + 500 < recursionLimit:=by show _ < 1000;omega
  have u1:c.A.units + 4800 < cLine:=by show _ < 9900;omega
  have d10:c.A.depth + 10 < recursionLimit:=by omega
  have u10:c.A.units + 100 < cLine:=by omega
  have d3:c.A.depth + 3 < recursionLimit:=by omega
  have u3:c.A.units + 8 * 3 < cLine:=by omega
  have hlc:c.g.IsList la us.toArray:=by rw [hcg];exact hL
  clear hdp hu
  with_reducible (refine nameQ ?_;intro _ _;refine eN ?_;intro _ _ _)
  refine Assign_Tuple_swapped ?_ (by k_dflt rfl) (by k_dflt rfl)
  have flag:OwnFlag:=⟨trivial⟩
  with_reducible (refine Tuple_ ?_;refine sp1 ?_ (by k_dflt rfl);refine call1 ‹_› ‹_› (g_law_deck_of _) (kp_law_deck_of _) mm8 ?_ (by k_dflt rfl);refine ev_lv ‹_› ‹_› LocV.a0 ?_;refine And.intro (St.kin ‹_›) ?_)
  refine deck_of ‹_› hlc hI hn63 (by omega) (by omega) ?_
  intro D xs n P1 s1 S1 hs1 hD hDk hDne
  with_reducible (refine sp1 ?_ (by k_dflt rfl);refine List_ ?_;refine sp1 ?_ (by k_dflt rfl);refine ev_int ‹_› ?_;intro _ _ _;refine sp1 ?_ (by k_dflt rfl);refine ev_int ‹_› ?_;intro _ _ _;refine sp0 ?_;refine nl_flag ‹_› ‹_› ?_ sl2;intro _ _ _;refine sp0 ?_;refine nt ‹_› ?_ sl2;intro _ _ _)
  clear flag
  refine unp2 ‹_› (by k_mem) ?_
  intro s2 S2
  refine assignInOrder_cons (wpAny_bindName ?_)
  with_reducible (refine st_loc ‹_› ‹_› ?_;refine SetQ.i (SetL.there (SetL.thereN (SetL.hereN))) ?_;intro _ _)
  refine assignInOrder_cons (wpAny_bindName ?_)
  with_reducible (refine st_loc ‹_› ‹_› ?_;refine SetQ.i (SetL.a1) ?_;intro _ _)
  refine assignInOrder_nil ?_
  rename_i Lx _ _ _ _ _ _ _ _ Sa
  have S3:=Sa.take (List.mem_cons_of_mem _ hD)
  refine S3.abs fun P2 S4 _=>?_
  clear S3 Sa S2 S1
  with_reducible (refine (by assumption:Nxt _ _ _ _ _ _ _) _ ?_;refine eI ‹_› ?_;intro _ _ _;refine wpAny_Assign_Name ?_ (by k_dflt rfl);refine List_ ?_;refine sp1 ?_ (by k_dflt rfl))
  refine ev_setlam ‹_› gN mm11 mm10 mm9 d10 u10 ?_
  intro r1 P3 s3 S5 hs3 hT1
  with_reducible (refine sp1 ?_ (by k_dflt rfl))
  refine ev_setlam ‹_› gN mm11 mm10 mm9 d10 u10 ?_
  intro r2 P4 s4 S6 hs4 hT2
  have hT1:=TR.mono _ _ _ _ hs4 hT1
  with_reducible (refine sp0 ?_;refine nl ‹_› ?_ sl2;intro _ _ _;refine st_loc ‹_› ‹_› ?_;refine SetQ.i (SetL.there (SetL.there (SetL.there (SetL.hereN)))) ?_;intro _ _;refine (by assumption:Nxt _ _ _ _ _ _ _) _ ?_;refine eI ‹_› ?_;intro _ _ _;refine wpAny_Assign_Name ?_ (by k_dflt rfl);refine call2 ‹_› ‹_› (g_Call _) (kp_Call _) mm12 ?_ (by k_dflt rfl) (by k_dflt rfl);refine call4 ‹_› ‹_› (g_Lambda _) (kp_Lambda _) mm10 ?_ (by k_dflt rfl) (by k_dflt rfl) (by k_dflt rfl) (by k_dflt rfl);refine ev_int ‹_› ?_;intro _ _ _;refine List_ ?_;refine sp1 ?_ (by k_dflt rfl);refine ev_int ‹_› ?_;intro _ _ _;refine sp1 ?_ (by k_dflt rfl);refine ev_int ‹_› ?_;intro _ _ _;refine sp0 ?_;refine nl ‹_› ?_ sl2;intro _ _ _;refine UnaryOp_ ?_;refine ev_int ‹_› ?_;intro _ _ _;refine negS ‹_› ?_;intro _ _ _;refine call1 ‹_› ‹_› (g_Seq _) (kp_Seq _) mm13 ?_ (by k_dflt rfl);refine List_ ?_;refine sp1 ?_ (by k_dflt rfl);refine Subscript_ ?_;refine ev_lv ‹_› ‹_› LocV.a3 ?_;refine ev_int ‹_› ?_;intro _ _ _)
  rename_i Lb _ _ _ _ _ _ _ _ _ _ _ _ _ _ _ _ Lv _ _ _ _ _ _ _ _ _ _ Sv
  refine Sv.abs fun P5 S7 hs5=>?_
  have hLv:=hs5 _ (.head _)
  have hLb:=hs5 _ (.tail _ (.head _))
  have hT1:=TR.mono _ _ _ _ (fun p hp=>hs5 _ (.tail _ (.tail _ hp))) hT1
  have hT2:=TR.mono _ _ _ _ (fun p hp=>hs5 _ (.tail _ (.tail _ hp))) hT2
  clear Sv S6 S5 S4 hs5
  refine li_item (St.isListP ‹_› hLb) (by decide) (by decide) (by rfl) ?_ (by k_dflt rfl)
  with_reducible (refine sp1 ?_ (by k_dflt rfl);refine call2 ‹_› ‹_› (g_Call _) (kp_Call _) mm12 ?_ (by k_dflt rfl) (by k_dflt rfl))
  refine ev_local ‹_› gN mm11 d10 u10 ?_
  intro r3 P6 s6 S8 hs6 hT3
  with_reducible (refine List_ ?_;refine sp0 ?_;refine nl ‹_› ?_ sl0;intro _ _ _;refine And.intro (St.kin ‹_›) ?_)
  refine useP (mk_call (TR.mono _ _ _ _ (fun p hp=>.tail _ hp) hT3) (.head _) .nil) ‹_› d3 u3 ?_
  intro r4 P7 s7 S9 hs7 hT4
  have h67:∀ p∈P5,p∈P7:=fun p hp=>hs7 _ (.tail _ (hs6 _ hp))
  have hLb:=h67 _ hLb
  with_reducible (refine sp1 ?_ (by k_dflt rfl);refine Subscript_ ?_;refine ev_lv ‹_› ‹_› LocV.a3 ?_;refine ev_int ‹_› ?_;intro _ _ _)
  refine li_item (St.isListP ‹_› hLb) (by decide) (by decide) (by rfl) ?_ (by k_dflt rfl)
  with_reducible (refine sp1 ?_ (by k_dflt rfl))
  refine ev_local ‹_› gN mm11 d10 u10 ?_
  intro r5 P8 s8 S10 hs8 hT5
  have h68:∀ p∈P5,p∈P8:=fun p hp=>hs8 _ (h67 _ hp)
  with_reducible (refine sp0 ?_;refine nl ‹_› ?_ sl4;intro _ _ _;refine And.intro (St.kin ‹_›) ?_)
  refine useP (mk_seq (ts:=[_,_,_,_]) (.head _) (Nds.of (.cons (TR.mono _ _ _ _ (fun p hp=>.tail _ (h68 _ hp)) hT1) (.cons (TR.mono _ _ _ _ (fun p hp=>.tail _ (hs8 _ hp)) hT4) (.cons (TR.mono _ _ _ _ (fun p hp=>.tail _ (h68 _ hp)) hT2) (.cons (TR.mono _ _ _ _ (fun p hp=>.tail _ hp) hT5) .nil)))))) ‹_› d3 u3 ?_
  intro r6 P9 s9 S11 hs9 hT6
  with_reducible (refine And.intro (St.kin ‹_›) ?_)
  refine useP (mk_lam (hs9 _ (.tail _ (h68 _ hLv))) (IntsAre.cons _ _ (IntsAre.cons _ _ .nil)) hT6) ‹_› d3 u3 ?_
  intro r7 P10 s10 S12 hs10 hT7
  with_reducible (refine List_ ?_;refine sp1 ?_ (by k_dflt rfl))
  refine ev_un ‹_› gN mm14 mm15 d10 u10 ?_
  intro r8 P11 s11 S13 hs11 hT8
  with_reducible (refine sp1 ?_ (by k_dflt rfl))
  refine ev_un ‹_› gN mm14 mm15 d10 u10 ?_
  intro r9 P12 s12 S14 hs12 hT9
  with_reducible (refine sp0 ?_;refine nl ‹_› ?_ sl2;intro _ _ _;refine And.intro (St.kin ‹_›) ?_)
  refine useP (mk_call (ts:=[_,_]) (TR.mono _ _ _ _ (fun p hp=>.tail _ (hs12 _ (hs11 _ hp))) hT7) (.head _) (Nds.of (.cons (TR.mono _ _ _ _ (fun p hp=>.tail _ (hs12 _ hp)) hT8) (.cons (TR.mono _ _ _ _ (fun p hp=>.tail _ hp) hT9) .nil)))) ‹_› d3 u3 ?_
  intro vh P13 s13 S15 hs13 hH
  clear hT1 hT2 hT3 hT4 hT5 hT6 hT7 hT8 hT9 S14 S13 S12 S11 S10 S9 S8 S7
  change TR _ _ _ handT at hH
  with_reducible (refine st_loc ‹_› ‹_› ?_;refine SetQ.i (SetL.there (SetL.there (SetL.there (SetL.there (SetL.hereN))))) ?_;intro _ _;refine (by assumption:Nxt _ _ _ _ _ _ _) _ ?_;refine eI ‹_› ?_;intro _ _ _;refine wpAny_Assign_Name ?_ (by k_dflt rfl);refine call2 ‹_› ‹_› (g_Call _) (kp_Call _) mm12 ?_ (by k_dflt rfl) (by k_dflt rfl);refine call4 ‹_› ‹_› (g_Lambda _) (kp_Lambda _) mm10 ?_ (by k_dflt rfl) (by k_dflt rfl) (by k_dflt rfl) (by k_dflt rfl);refine ev_int ‹_› ?_;intro _ _ _;refine List_ ?_;refine sp1 ?_ (by k_dflt rfl);refine ev_int ‹_› ?_;intro _ _ _;refine sp1 ?_ (by k_dflt rfl);refine ev_int ‹_› ?_;intro _ _ _;refine sp0 ?_;refine nl ‹_› ?_ sl2;intro _ _ _;refine UnaryOp_ ?_;refine ev_int ‹_› ?_;intro _ _ _;refine negS ‹_› ?_;intro _ _ _;refine call1 ‹_› ‹_› (g_Seq _) (kp_Seq _) mm13 ?_ (by k_dflt rfl);refine List_ ?_;refine sp1 ?_ (by k_dflt rfl))
  rename_i Lw _ _ _ _ _ _ _ Sw
  refine Sw.abs fun P14 S16 hs14=>?_
  have hLw:=hs14 _ (.head _)
  have hH:=TR.mono _ _ _ _ (fun p hp=>hs14 _ (.tail _ hp)) hH
  clear Sw S15 hs14
  refine ev_setlam ‹_› gN mm11 mm10 mm9 d10 u10 ?_
  intro r1 P15 s15 S17 hs15 hT1
  with_reducible (refine sp1 ?_ (by k_dflt rfl))
  refine ev_setlam ‹_› gN mm11 mm10 mm9 d10 u10 ?_
  intro r2 P16 s16 S18 hs16 hT2
  with_reducible (refine sp1 ?_ (by k_dflt rfl))
  refine ev_local ‹_› gN mm11 d10 u10 ?_
  intro r3 P17 s17 S19 hs17 hT3
  with_reducible (refine sp0 ?_;refine nl ‹_› ?_ sl3;intro _ _ _;refine And.intro (St.kin ‹_›) ?_)
  refine useP (mk_seq (ts:=[_,_,_]) (.head _) (Nds.of (.cons (TR.mono _ _ _ _ (fun p hp=>.tail _ (hs17 _ (hs16 _ hp))) hT1) (.cons (TR.mono _ _ _ _ (fun p hp=>.tail _ (hs17 _ hp)) hT2) (.cons (TR.mono _ _ _ _ (fun p hp=>.tail _ hp) hT3) .nil))))) ‹_› d3 u3 ?_
  intro r6 P18 s18 S20 hs18 hT6
  with_reducible (refine And.intro (St.kin ‹_›) ?_)
  have h18:∀ p∈P14,p∈P18:=fun p hp=>hs18 _ (.tail _ (hs17 _ (hs16 _ (hs15 _ hp))))
  refine useP (mk_lam (h18 _ hLw) (IntsAre.cons _ _ (IntsAre.cons _ _ .nil)) hT6) ‹_› d3 u3 ?_
  intro r7 P19 s19 S21 hs19 hT7
  with_reducible (refine List_ ?_;refine sp1 ?_ (by k_dflt rfl))
  refine ev_un ‹_› gN mm14 mm15 d10 u10 ?_
  intro r8 P20 s20 S22 hs20 hT8
  with_reducible (refine sp1 ?_ (by k_dflt rfl))
  refine ev_un ‹_› gN mm14 mm15 d10 u10 ?_
  intro r9 P21 s21 S23 hs21 hT9
  with_reducible (refine sp0 ?_;refine nl ‹_› ?_ sl2;intro _ _ _;refine And.intro (St.kin ‹_›) ?_)
  refine useP (mk_call (ts:=[_,_]) (TR.mono _ _ _ _ (fun p hp=>.tail _ (hs21 _ (hs20 _ hp))) hT7) (.head _) (Nds.of (.cons (TR.mono _ _ _ _ (fun p hp=>.tail _ (hs21 _ hp)) hT8) (.cons (TR.mono _ _ _ _ (fun p hp=>.tail _ hp) hT9) .nil)))) ‹_› d3 u3 ?_
  intro vp P22 s22 S24 hs22 hPr
  have hH:=TR.mono _ _ _ _ (fun p hp=>hs22 _ (.tail _ (hs21 _ (hs20 _ (hs19 _ (h18 _ hp)))))) hH
  clear hT1 hT2 hT3 hT6 hT7 hT8 hT9 S23 S22 S21 S20 S19 S18 S17 S16
  change TR _ _ _ pairT at hPr
  with_reducible (refine st_loc ‹_› ‹_› ?_;refine SetQ.i (SetL.there (SetL.there (SetL.there (SetL.there (SetL.there (SetL.hereN)))))) ?_;intro _ _;refine (by assumption:Nxt _ _ _ _ _ _ _) _ ?_;refine eI ‹_› ?_;intro _ _ _)
  refine For_ ‹_› ?_ (by k_dflt exact fun _=>rfl)
  with_reducible (refine List_ ?_;refine sp1 ?_ (by k_dflt rfl);refine ev_lv ‹_› ‹_› LocV.a4 ?_;refine sp1 ?_ (by k_dflt rfl);refine ev_lv ‹_› ‹_› LocV.a5 ?_;refine sp1 ?_ (by k_dflt rfl);refine call4 ‹_› ‹_› (g_law_late _) (kp_law_late _) mm16 ?_ (by k_dflt rfl) (by k_dflt rfl) (by k_dflt rfl) (by k_dflt rfl);refine ev_lv ‹_› ‹_› LocV.a1 ?_;refine ev_lv ‹_› ‹_› LocV.a2 ?_;refine List_ ?_;refine sp1 ?_ (by k_dflt rfl);refine ev_int ‹_› ?_;intro _ _ _;refine sp0 ?_;refine nl ‹_› ?_ sl1;intro _ _ _;refine ev_int ‹_› ?_;intro _ _ _;refine And.intro (St.kin ‹_›) ?_)
  rename_i Lk _ _ _ _ Sk
  refine Sk.abs fun P23 S25 hs23=>?_
  have hLk:=hs23 _ (.head _)
  have hH:=TR.mono _ _ _ _ (fun p hp=>hs23 _ (.tail _ hp)) hH
  have hPr:=TR.mono _ _ _ _ (fun p hp=>hs23 _ (.tail _ hp)) hPr
  clear Sk S24 hs23
  refine late_all _ c _ _ _ _ _ _ D Lx 1000 1000 Lk _ _ [80] _ ⟨xs,n,_,_,_,‹_›,hDk⟩ hLk (.cons _ _ .nil) (by exact Nat.one_pos) (by exact Nat.le_of_ble_eq_true rfl) (by omega) (by omega) ?_
  intro vl P24 s24 a' b' tl B hs24 hTl hBl hsl hdl
  refine ex5 B ?_;clear B;intro xs' n' e' t1 t2 hy1;refine an2 hy1 ?_;clear hy1;intro S26 hD'
  have hH:=TR.mono _ _ _ _ hs24 hH
  have hPr:=TR.mono _ _ _ _ hs24 hPr
  clear S25
  with_reducible (refine sp0 ?_;refine nl ‹_› ?_ sl3;intro _ _ _)
  rename_i Ll s25 S27
  have hall:∀ (i:Nat) (v:Value),[vh,vp,vl][i]? = some v→∃ t,TR w P24 v t∧Bt t:=by
    intro i v hv
    match i with
    | 0=>cases hv;exact ⟨_,hH,bt_hand⟩
    | 1=>cases hv;exact ⟨_,hPr,bt_pair⟩
    | 2=>cases hv;exact ⟨_,hTl,bt_late hBl hsl hdl⟩
    | k + 3=>simp at hv
  refine forL (vals:=[some (.ref la),some (.ref D),some (.ref Lx),some (.ref Lb),some vh,some vp,none,none]) (vs:=[vh,vp,vl]) (St.pad 2 (vs:=[some (.ref la),some (.ref D),some (.ref Lx),some (.ref Lb),some vh,some vp]) S27) gN (.head _) (fun i vals₁ own₁ P₁=>(∃ v1 v2,vals₁ = [some (.ref la),some (.ref D),some (.ref Lx),some (.ref Lb),some vh,some vp,v1,v2])∧(∀ p∈P24,p∈P₁)) ⟨⟨_,_,rfl⟩,fun p hp=>.tail _ hp⟩ ?_ ?_
  · intro i v vals₁ own₁ P₁ P₁' W s₁ Qb hqb hi hv hx2
    refine an2 hx2 ?_;clear hx2;intro hx3 hP1
    refine ex2 hx3 ?_;clear hx3;intro v1 v2 hx4
    subst hx4
    intro S hs
    refine ex1 (hall i v hv) ?_;intro t hy5;refine an2 hy5 ?_;clear hy5;intro hT hB
    refine SetQ.i (SetL.a6) ?_
    intro s2 S2
    with_reducible (refine eI ‹_› ?_;intro _ _ _;refine wpAny_Assign_Name ?_ (by k_dflt rfl);refine call4 ‹_› ‹_› (g_Lambda _) (kp_Lambda _) mm10 ?_ (by k_dflt rfl) (by k_dflt rfl) (by k_dflt rfl) (by k_dflt rfl);refine ev_int ‹_› ?_;intro _ _ _;refine List_ ?_;refine sp1 ?_ (by k_dflt rfl);refine ev_int ‹_› ?_;intro _ _ _;refine sp0 ?_;refine nl ‹_› ?_ sl1;intro _ _ _;refine UnaryOp_ ?_;refine ev_int ‹_› ?_;intro _ _ _;refine negS ‹_› ?_;intro _ _ _;refine ev_lv ‹_› ‹_› LocV.a6 ?_;refine And.intro (St.kin ‹_›) ?_)
    refine useP (mk_lam (.head _) (IntsAre.cons _ _ .nil) (TR.mono _ _ _ _ (fun p hp=>.tail _ (hs _ (hP1 _ hp))) hT)) ‹_› d3 u3 ?_
    intro rn P3 s3 S3 hs3 hx6
    refine ex1 hx6 ?_;clear hx6;intro an hy8;refine an2 hy8 ?_;clear hy8;intro hx7 hN
    subst hx7
    have hz:=hB.s
    have hd:=hB.d
    have hz1:(Mine.T.lam 79 [80] t).size≤1742:=by simp only [Mine.T.size,List.length_singleton];omega
    have hd1:(Mine.T.lam 79 [80] t).dep≤24:=by simp only [Mine.T.dep];omega
    obtain ⟨tw,htw⟩:∃ tw,tw = Mine.T.lam 79 [80] t:=⟨_,rfl⟩
    have hBb:=hB.b
    rw [← htw] at hN hz1 hd1 hBb
    have hz2:=size_fixT (fun x=>(setn tw).count x) tw
    have hd2:=dep_fixT (fun x=>(setn tw).count x) tw
    with_reducible (refine st_loc ‹_› ‹_› ?_;refine SetQ.i (SetL.a6) ?_;intro _ _;refine (by assumption:Nxt _ _ _ _ _ _ _) _ ?_;refine eI ‹_› ?_;intro _ _ _;refine wpAny_Assign_Name ?_ (by k_dflt rfl);refine call1 ‹_› ‹_› (g_law_told _) (kp_law_told _) mm17 ?_ (by k_dflt rfl);refine ev_lv ‹_› ‹_› LocV.a6 ?_;refine And.intro (St.kin ‹_›) ?_)
    refine useP (told tw an hN (by omega)) ‹_› (by omega) (by omega) ?_
    intro ra P4 s4 S4 hs4 hA
    with_reducible (refine st_loc ‹_› ‹_› ?_;refine SetQ.i (SetL.a7) ?_;intro _ _;refine (by assumption:Nxt _ _ _ _ _ _ _) _ ?_;refine eI ‹_› ?_;intro _ _ _;refine If_N ?_;intro _ _;refine isTrue_or ?_;refine wpAny_isTrue_Compare1 ?_ (by k_dflt rfl);refine call1 ‹_› ‹_› (g_law_told _) (kp_law_told _) mm17 ?_ (by k_dflt rfl);refine call1 ‹_› ‹_› (g_fixed _) (kp_fixed _) mm18 ?_ (by k_dflt rfl);refine ev_lv ‹_› ‹_› LocV.a6 ?_;refine And.intro (St.kin ‹_›) ?_)
    refine useP (fixed (hN.mono hs4) hBb) ‹_› (by omega) (by omega) ?_
    intro r P5 s5 S5 hs5 hx9
    refine ex1 hx9 ?_;clear hx9;intro af hy11;refine an2 hy11 ?_;clear hy11;intro hx10 hF
    subst hx10
    with_reducible (refine And.intro (St.kin ‹_›) ?_)
    refine useP (told _ af hF (by omega)) ‹_› (by omega) (by omega) ?_
    intro rf P6 s6 S6 hs6 hR
    have hA6:=hA.mono fun p hp=>hs6 _ (hs5 _ hp)
    with_reducible (refine call2 ‹_› ‹_› (g_law_due_of _) (kp_law_due_of _) mm19 ?_ (by k_dflt rfl) (by k_dflt rfl);refine ev_lv ‹_› ‹_› LocV.a7 ?_;refine ev_lv ‹_› ‹_› LocV.a7 ?_;refine And.intro (St.kin ‹_›) ?_)
    refine useP (due_of (W:=tw) (cn:=fun x=>(setn tw).count x) tw ra hA6 hA6 (fun _=>rfl) (by omega) hBb.ok) ‹_› (by omega) (by omega) ?_
    intro rd P7 s7 S7 hs7 hDd
    refine neDat 98 98 ‹_› (hR.mono hs7) (fun _ h=>h) hDd (fun _ h=>h) (kqd_tell _ 96 (by omega)) (kqd_tell _ 96 (by omega)) (by omega) ?_
    intro bb hbb
    have hb:=hbb.mpr rfl
    subst hb
    with_reducible (refine wpAny_truthy_bool ?_;refine ite_df (by k_dflt rfl) ?_;refine isTrue_or ?_;refine wpAny_isTrue_Compare1 ?_ (by k_dflt rfl);refine call1 ‹_› ‹_› (g_law_told _) (kp_law_told _) mm17 ?_ (by k_dflt rfl);refine ev_lv ‹_› ‹_› LocV.a6 ?_;refine And.intro (St.kin ‹_›) ?_)
    refine useP (told tw an (hN.mono fun p hp=>hs7 _ (hs6 _ (hs5 _ (hs4 _ hp)))) (by omega)) ‹_› (by omega) (by omega) ?_
    intro rg P8 s8 S8 hs8 hG
    with_reducible (refine ev_lv ‹_› ‹_› LocV.a7 ?_)
    refine neDat 98 98 ‹_› hG (fun _ h=>h) (hA6.mono fun p hp=>hs8 _ (hs7 _ hp)) (fun _ h=>h) (kqd_tell _ 96 (by omega)) (kqd_tell _ 96 (by omega)) (by omega) ?_
    intro bb hbb
    have hb:=hbb.mpr rfl
    subst hb
    with_reducible (refine wpAny_truthy_bool ?_;refine ite_df (by k_dflt rfl) ?_;refine isTrue_or_nil ?_;refine (by assumption:ImpG _ _) _ _ ?_;refine ite_ff ?_;refine wpAny_execs_nil ?_;refine (by assumption:Nxt _ _ _ _ _ _ _) _ ?_;refine wpAny_execs_nil ?_;refine (by assumption:Imp _ _) _ _ ?_)
    refine mk3 _ _ P8 ⟨‹_›,fun p hp=>hs8 _ (hs7 _ (hs6 _ (hs5 _ (hs4 _ (hs3 _ (.tail _ hp)))))),⟨_,_,rfl⟩,fun p hp=>hs8 _ (hs7 _ (hs6 _ (hs5 _ (hs4 _ (hs3 _ (.tail _ (hs _ (hP1 _ hp))))))))⟩
  · intro vals' own' P' s3 S3 hx12
    refine an2 hx12 ?_;clear hx12;intro hx13 hP1
    refine ex2 hx13 ?_;clear hx13;intro v1 v2 hx14
    subst hx14
    try dsimp only
    with_reducible (refine (by assumption:Nxt _ _ _ _ _ _ _) _ ?_;refine eI ‹_› ?_;intro _ _ _;refine wpAny_Return_some ?_;refine PyProof.Rows.Constant_bool ?_;refine (by assumption:Abr _ _) _ _ (by k_dflt rfl) ?_;refine (by assumption:Imp _ _) _ _ ?_)
    exact ⟨rfl,mk3 _ _ _ ‹_›⟩
end
end Mine
theorem PySem.Challenge.cw_pq1024_01_holds : PySem.Challenge.rw_pq1024_01.Holds := by
  exact Mine.cw0
