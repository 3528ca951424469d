import PyProof.Rows.All
import Wide.All
import OpenK.AllK
import Wide.FinOn
import PySem.Challenge.RW_nt0056_01
open PySem PySem.W PyProof.Rows PySem.Calls
set_option Elab.async false
set_option linter.all false
set_option maxRecDepth 100000
set_option maxHeartbeats 8000000
set_option pp.deepTerms false
set_option pp.deepTerms.threshold 3
namespace Mine
noncomputable def stP:List Stmt:=Challenge.rw_nt0056_01.row.prog.main.body
noncomputable def stB (i:Nat):Stmt:=stP.getD i (.Pass default)
noncomputable def stM (i j:Nat):Stmt:=match stB i with | .ClassDef _ _ _ b ..=>b.getD j (.Pass default) | s=>s
noncomputable def wO (c:Value) (g:Addr) (s:Stmt) (q:String) (dv pm cd:Value):Obj:=match s with
 | .FunctionDef n args body _ _ _ sc ..=>{ cls:=c,data:=.func { name:=n,qualname:=q,params:=args,body:=.stmts body,scope:=sc,globals:=g,closure:=[],defaults:=dv,kwdefaults:=.none,pyModule:=pm,code:=cd } }
 | _=>default
noncomputable def uD (s:Stmt) (q m:String) (t:Nat) (cd:Addr) (dv:Value):Obj:=wO (.type "function") 3 s q dv (.str m t) (.ref cd)
noncomputable def uO (s:Stmt) (q m:String) (t:Nat) (cd:Addr):Obj:=uD s q m t cd .none
noncomputable def vO (s:Stmt) (q:String):Obj:=wO .none 0 s q .none .none .none
noncomputable def dO (P:Params) (es:List (String × Nat × Value)) (ep:Nat):Obj:={ cls:=.type "dict",data:=.dict (es.map fun e=>{ hash:=PyData.keyHash P (Str.ofString e.1),key:=.str (Str.ofString e.1) e.2.1,val:=e.2.2 }).toArray ep }
noncomputable def gO (c:Value) (vs:List Value):Obj:={ cls:=c,data:=.fields vs.toArray }
noncomputable def eO:Obj:=gO .none []
noncomputable def tO (vs:List Value):Obj:={ cls:=.type "tuple",data:=.seq vs.toArray }
noncomputable def tS (vs:List (String × Nat)):Obj:=tO (vs.map fun v=>.str (Str.ofString v.1) v.2)
noncomputable def kO (n q:String) (t l a s r:Nat) (b:Bool) (f:Nat) (m:List Value) (t1 t2:Nat):Obj:=gO (.type "code") ([.str n t,.str q (t+1),.str "/claim/cut.py" (t+2),.int l 0,.int a 0,.int 0 0,.int 0 0,.int s 0,.ref r,.bool b,.int f 0,.ref (r+1)]++m++[.int t1 0,.int l 0,.str "/claim/cut.py" t2])
noncomputable def cO (a:Addr) (nm:String) (ns:Addr) (t1 t2:Nat):Obj:={ cls:=.type "type",data:=.cls { name:=Str.ofString nm,bases:=[.type "object"],mro:=[.ref a,.type "object"],ns:=ns,qualname:=Str.ofString nm },slots:=#[none,none,some (.str (Str.ofString nm) t1),some (.str (Str.ofString nm) t2),some (.builtin "object.__new__"),some (.bool true)] }
noncomputable def KK:Params->Frag:=fun P=>[
(3,dO P [("__name__",165,.str "law_nt0056_01" 850),("__doc__",166,.none),("__package__",167,.none),("__loader__",168,.builtin "__main__.__loader__#opaque"),("__spec__",169,.none),("__annotations__",170,.ref 6),("__builtins__",171,.ref 4),("__file__",173,.str "/claim/cut.py" 172),("__cached__",174,.none),("_wall",193,.ref 21),("ABOVE",197,.int 230 196),("DOT_ABOVE",199,.int 775 198),("CAPITAL_I",201,.int 73 200),("SMALL_I",203,.int 105 202),("CAPITAL_J",205,.int 74 204),("SMALL_J",207,.int 106 206),("ACUTE",209,.int 769 208),("NEGATION",211,.str "Not_" 210),("simple_upper",220,.ref 28),("simple_lower",229,.ref 35),("simple_title",238,.ref 42),("case_base",247,.ref 49),("case_after_cased",256,.ref 56),("case_before_cased",266,.ref 63),("case_final_sigma",275,.ref 70),("case_is_apart",283,.ref 77),("case_after_soft_dotted",292,.ref 84),("case_after_i",301,.ref 91),("case_more_above",311,.ref 98),("case_before_dot",321,.ref 105),("case_context",331,.ref 112),("case_condition",343,.ref 119),("case_conditions",355,.ref 126),("case_special",369,.ref 133),("lower_at",381,.ref 141),("title_at",393,.ref 149),("case_joined",402,.ref 156),("case_first_cased",413,.ref 163),("case_segments",419,.ref 168),("case_dutch",430,.ref 175),("title_pieces",437,.ref 181),("title",448,.ref 189),("MAX_CODE",452,.int 1114111 451),("place_by_half",463,.ref 196),("range_are_like",473,.ref 203),("RangeMap",542,.ref 248),("data_defaults",552,.ref 259),("Data",611,.ref 297),("WORD_ENDS",617,.ref 302),("WORD_SKIPPED",621,.ref 303),("WORD_LETTERS",624,.ref 304),("WORD_PLAIN",628,.ref 305),("WORD_JOINED",633,.ref 306),("WORD_IN_LETTERS",637,.ref 307),("WORD_IN_NUMBERS",641,.ref 308),("WordPlaces",706,.ref 353),("WordWalk",770,.ref 400),("word_bridges",779,.ref 411),("word_is_joined",790,.ref 418),("word_rule",801,.ref 425),("word_break",810,.ref 432),("word_boundaries",816,.ref 437),("word_segments",822,.ref 442),("word_begin",831,.ref 449),("word_end",840,.ref 456),("word_at",849,.ref 463),("_law_deck",857,.ref 468),("_law_draw",867,.ref 475),("_law_pick",875,.ref 482),("_law_sorts",881,.ref 489),("_law_letters",887,.ref 496),("_law_world",897,.ref 503),("_law_data",909,.ref 510),("_law_bases",920,.ref 517),("_law_is_whole",938,.ref 524),("_law_boundaries",944,.ref 529),("_law_title",955,.ref 536),("_law_asked_right",961,.ref 541),("law",967,.ref 546)] 79),
(27,kO "simple_upper" "simple_upper" 212 13 2 3 22 true 181 [.none,.ref 24,.ref 25,.ref 26] 218 219),
(28,uO (stB 10) "simple_upper" "unicore.casing" 194 27),
(34,kO "simple_lower" "simple_lower" 221 16 2 3 29 true 181 [.none,.ref 31,.ref 32,.ref 33] 227 228),
(35,uO (stB 11) "simple_lower" "unicore.casing" 194 34),
(41,kO "simple_title" "simple_title" 230 19 2 3 36 true 181 [.none,.ref 38,.ref 39,.ref 40] 236 237),
(42,uO (stB 12) "simple_title" "unicore.casing" 194 41),
(48,kO "case_base" "case_base" 239 22 1 3 43 true 181 [.none,.ref 45,.ref 46,.ref 47] 245 246),
(49,uO (stB 13) "case_base" "unicore.casing" 194 48),
(132,kO "case_special" "case_special" 356 97 5 3 127 true 181 [.none,.ref 129,.ref 130,.ref 131] 367 368),
(133,uO (stB 25) "case_special" "unicore.casing" 194 132),
(134,tO [.str "" 370]),
(140,kO "lower_at" "lower_at" 371 105 4 3 135 true 181 [.none,.ref 137,.ref 138,.ref 139] 379 380),
(141,uD (stB 26) "lower_at" "unicore.casing" 194 140 (.ref 134)),
(142,tO [.str "" 382]),
(148,kO "title_at" "title_at" 383 108 4 3 143 true 181 [.none,.ref 145,.ref 146,.ref 147] 391 392),
(149,uD (stB 27) "title_at" "unicore.casing" 194 148 (.ref 142)),
(155,kO "case_joined" "case_joined" 394 111 1 3 150 true 181 [.none,.ref 152,.ref 153,.ref 154] 400 401),
(156,uO (stB 28) "case_joined" "unicore.casing" 194 155),
(162,kO "case_first_cased" "case_first_cased" 403 116 4 3 157 true 181 [.none,.ref 159,.ref 160,.ref 161] 411 412),
(163,uO (stB 29) "case_first_cased" "unicore.casing" 194 162),
(167,kO "case_segments" "case_segments" 414 121 2 3 164 true 181 [.none,.none,.none,.ref 166] 417 418),
(168,uO (stB 30) "case_segments" "unicore.casing" 194 167),
(176,tO [.str "" 431]),
(180,kO "title_pieces" "title_pieces" 432 132 4 3 177 true 181 [.none,.none,.none,.ref 179] 435 436),
(181,uD (stB 32) "title_pieces" "unicore.casing" 194 180 (.ref 176)),
(182,tO [.str "" 438]),
(188,kO "title" "title" 439 145 4 3 183 true 181 [.none,.ref 185,.ref 186,.ref 187] 446 447),
(189,uD (stB 33) "title" "unicore.casing" 194 188 (.ref 182)),
(195,kO "place_by_half" "place_by_half" 453 149 2 3 190 true 181 [.none,.ref 192,.ref 193,.ref 194] 461 462),
(196,uO (stB 36) "place_by_half" "unicore.base" 449 195),
(202,kO "range_are_like" "range_are_like" 466 160 2 3 197 true 181 [.none,.ref 199,.ref 200,.ref 201] 471 472),
(203,uO (stB 38) "range_are_like" "unicore.ranges" 464 202),
(216,kO "__init__" "RangeMap.__init__" 486 164 2 3 211 true 181 [.none,.ref 213,.ref 214,.ref 215] 491 492),
(217,uO (stM 39 0) "RangeMap.__init__" "unicore.ranges" 464 216),
(223,kO "get" "RangeMap.get" 494 169 2 3 218 true 181 [.none,.ref 220,.ref 221,.ref 222] 499 500),
(224,uO (stM 39 1) "RangeMap.get" "unicore.ranges" 464 223),
(230,kO "put" "RangeMap.put" 502 172 4 3 225 true 181 [.none,.ref 227,.ref 228,.ref 229] 514 515),
(231,uO (stM 39 2) "RangeMap.put" "unicore.ranges" 464 230),
(246,tS [("default",532),("starts",533),("values",534)]),
(247,dO P [("__module__",481,.str "unicore.ranges" 464),("__firstlineno__",485,.int 162 484),("__init__",493,.ref 217),("get",501,.ref 224),("put",516,.ref 231),("ranges",523,.ref 238),("set_of",531,.ref 245),("__static_attributes__",535,.ref 246),("__dict__",537,.ref 249),("__weakref__",539,.ref 250),("__doc__",540,.none)] 4),
(248,cO 248 "RangeMap" 247 474 482),
(249,gO (.type "getset_descriptor") [.str "__dict__" 536,.ref 248,.builtin "function.__dict__",.builtin "function.__dict__#set"]),
(250,gO (.type "getset_descriptor") [.str "__weakref__" 538,.ref 248,.builtin "ExceptionGroup.__weakref__",.none]),
(258,kO "data_defaults" "data_defaults" 545 193 0 3 253 true 181 [.none,.ref 255,.ref 256,.ref 257] 550 551),
(259,uO (stB 41) "data_defaults" "unicore.data" 543 258),
(272,kO "__init__" "Data.__init__" 565 207 1 3 267 true 181 [.none,.ref 269,.ref 270,.ref 271] 569 570),
(273,uO (stM 42 0) "Data.__init__" "unicore.data" 543 272),
(279,kO "put" "Data.put" 572 213 5 3 274 true 181 [.none,.ref 276,.ref 277,.ref 278] 580 581),
(280,uO (stM 42 1) "Data.put" "unicore.data" 543 279),
(286,kO "get" "Data.get" 583 216 3 3 281 true 181 [.none,.ref 283,.ref 284,.ref 285] 589 590),
(287,uO (stM 42 2) "Data.get" "unicore.data" 543 286),
(293,kO "map_of" "Data.map_of" 592 221 2 3 288 true 181 [.none,.ref 290,.ref 291,.ref 292] 597 598),
(294,uO (stM 42 3) "Data.map_of" "unicore.data" 543 293),
(295,tS [("defaults",600),("maps",601),("properties",602),("words",603)]),
(296,dO P [("__module__",560,.str "unicore.data" 543),("__firstlineno__",564,.int 205 563),("__init__",571,.ref 273),("put",582,.ref 280),("get",591,.ref 287),("map_of",599,.ref 294),("__static_attributes__",604,.ref 295),("__dict__",606,.ref 298),("__weakref__",608,.ref 299),("__doc__",609,.none)] 4),
(297,cO 297 "Data" 296 553 561),
(298,gO (.type "getset_descriptor") [.str "__dict__" 605,.ref 297,.builtin "function.__dict__",.builtin "function.__dict__#set"]),
(299,gO (.type "getset_descriptor") [.str "__weakref__" 607,.ref 297,.builtin "ExceptionGroup.__weakref__",.none]),
(302,tS [("CR",614),("LF",615),("Newline",616)]),
(303,tS [("Extend",618),("Format",619),("ZWJ",620)]),
(304,tS [("ALetter",622),("Hebrew_Letter",623)]),
(305,tS [("ALetter",625),("Hebrew_Letter",626),("Numeric",627)]),
(306,tS [("ALetter",629),("Hebrew_Letter",630),("Numeric",631),("Katakana",632)]),
(307,tS [("MidLetter",634),("MidNumLet",635),("Single_Quote",636)]),
(308,tS [("MidNum",638),("MidNumLet",639),("Single_Quote",640)]),
(321,kO "__init__" "WordPlaces.__init__" 654 235 3 3 316 true 181 [.none,.ref 318,.ref 319,.ref 320] 660 661),
(322,uO (stM 51 0) "WordPlaces.__init__" "unicore.words" 612 321),
(328,kO "sort" "WordPlaces.sort" 663 239 2 3 323 true 181 [.none,.ref 325,.ref 326,.ref 327] 668 669),
(329,uO (stM 51 1) "WordPlaces.sort" "unicore.words" 612 328),
(335,kO "left" "WordPlaces.left" 671 242 2 3 330 true 181 [.none,.ref 332,.ref 333,.ref 334] 677 678),
(336,uO (stM 51 2) "WordPlaces.left" "unicore.words" 612 335),
(342,kO "right" "WordPlaces.right" 680 250 2 3 337 true 181 [.none,.ref 339,.ref 340,.ref 341] 685 686),
(343,uO (stM 51 3) "WordPlaces.right" "unicore.words" 612 342),
(349,kO "flags" "WordPlaces.flags" 688 255 2 3 344 true 181 [.none,.ref 346,.ref 347,.ref 348] 694 695),
(350,uO (stM 51 4) "WordPlaces.flags" "unicore.words" 612 349),
(351,tS [("data",697),("text",698)]),
(352,dO P [("__module__",649,.str "unicore.words" 612),("__firstlineno__",653,.int 233 652),("__init__",662,.ref 322),("sort",670,.ref 329),("left",679,.ref 336),("right",687,.ref 343),("flags",696,.ref 350),("__static_attributes__",699,.ref 351),("__dict__",701,.ref 354),("__weakref__",703,.ref 355),("__doc__",704,.none)] 4),
(353,cO 353 "WordPlaces" 352 642 650),
(354,gO (.type "getset_descriptor") [.str "__dict__" 700,.ref 353,.builtin "function.__dict__",.builtin "function.__dict__#set"]),
(355,gO (.type "getset_descriptor") [.str "__weakref__" 702,.ref 353,.builtin "ExceptionGroup.__weakref__",.none]),
(368,kO "__init__" "WordWalk.__init__" 719 263 3 3 365 true 181 [.none,.none,.none,.ref 367] 722 723),
(369,uO (stM 52 0) "WordWalk.__init__" "unicore.words" 612 368),
(375,kO "sort" "WordWalk.sort" 725 279 2 3 370 true 181 [.none,.ref 372,.ref 373,.ref 374] 730 731),
(376,uO (stM 52 1) "WordWalk.sort" "unicore.words" 612 375),
(382,kO "left" "WordWalk.left" 733 282 2 3 377 true 181 [.none,.ref 379,.ref 380,.ref 381] 738 739),
(383,uO (stM 52 2) "WordWalk.left" "unicore.words" 612 382),
(389,kO "right" "WordWalk.right" 741 285 2 3 384 true 181 [.none,.ref 386,.ref 387,.ref 388] 746 747),
(390,uO (stM 52 3) "WordWalk.right" "unicore.words" 612 389),
(396,kO "flags" "WordWalk.flags" 749 288 2 3 391 true 181 [.none,.ref 393,.ref 394,.ref 395] 754 755),
(397,uO (stM 52 4) "WordWalk.flags" "unicore.words" 612 396),
(398,tS [("data",757),("lefts",758),("rights",759),("rows",760),("sorts",761),("text",762)]),
(399,dO P [("__module__",714,.str "unicore.words" 612),("__firstlineno__",718,.int 261 717),("__init__",724,.ref 369),("sort",732,.ref 376),("left",740,.ref 383),("right",748,.ref 390),("flags",756,.ref 397),("__static_attributes__",763,.ref 398),("__dict__",765,.ref 401),("__weakref__",767,.ref 402),("__doc__",768,.none)] 4),
(400,cO 400 "WordWalk" 399 707 715),
(401,gO (.type "getset_descriptor") [.str "__dict__" 764,.ref 400,.builtin "function.__dict__",.builtin "function.__dict__#set"]),
(402,gO (.type "getset_descriptor") [.str "__weakref__" 766,.ref 400,.builtin "ExceptionGroup.__weakref__",.none]),
(410,kO "word_bridges" "word_bridges" 771 290 3 3 405 true 181 [.none,.ref 407,.ref 408,.ref 409] 777 778),
(411,uO (stB 53) "word_bridges" "unicore.words" 612 410),
(417,kO "word_is_joined" "word_is_joined" 780 296 2 3 412 true 181 [.none,.ref 414,.ref 415,.ref 416] 788 789),
(418,uO (stB 54) "word_is_joined" "unicore.words" 612 417),
(424,kO "word_rule" "word_rule" 791 316 2 3 419 true 181 [.none,.ref 421,.ref 422,.ref 423] 799 800),
(425,uO (stB 55) "word_rule" "unicore.words" 612 424),
(431,kO "word_break" "word_break" 802 332 3 3 426 true 181 [.none,.ref 428,.ref 429,.ref 430] 808 809),
(432,uO (stB 56) "word_break" "unicore.words" 612 431),
(436,kO "word_boundaries" "word_boundaries" 811 334 2 3 433 true 181 [.none,.none,.none,.ref 435] 814 815),
(437,uO (stB 57) "word_boundaries" "unicore.words" 612 436),
(441,kO "word_segments" "word_segments" 817 337 2 3 438 true 181 [.none,.none,.none,.ref 440] 820 821),
(442,uO (stB 58) "word_segments" "unicore.words" 612 441),
(448,kO "word_begin" "word_begin" 823 340 3 3 443 true 181 [.none,.ref 445,.ref 446,.ref 447] 829 830),
(449,uO (stB 59) "word_begin" "unicore.words" 612 448),
(455,kO "word_end" "word_end" 832 344 3 3 450 true 181 [.none,.ref 452,.ref 453,.ref 454] 838 839),
(456,uO (stB 60) "word_end" "unicore.words" 612 455),
(462,kO "word_at" "word_at" 841 351 3 3 457 true 181 [.none,.ref 459,.ref 460,.ref 461] 847 848),
(463,uO (stB 61) "word_at" "unicore.words" 612 462),
(467,kO "_law_deck" "_law_deck" 852 356 1 3 464 true 181 [.none,.none,.none,.ref 466] 855 856),
(468,uO (stB 63) "_law_deck" "law_nt0056_01" 850 467),
(474,kO "_law_draw" "_law_draw" 858 361 2 3 469 true 181 [.none,.ref 471,.ref 472,.ref 473] 865 866),
(475,uO (stB 64) "_law_draw" "law_nt0056_01" 850 474),
(481,kO "_law_pick" "_law_pick" 868 373 2 3 476 true 181 [.none,.ref 478,.ref 479,.ref 480] 873 874),
(482,uO (stB 65) "_law_pick" "law_nt0056_01" 850 481),
(488,kO "_law_sorts" "_law_sorts" 876 375 0 3 483 true 181 [.none,.ref 485,.ref 486,.ref 487] 879 880),
(489,uO (stB 66) "_law_sorts" "law_nt0056_01" 850 488),
(495,kO "_law_letters" "_law_letters" 882 377 0 3 490 true 181 [.none,.ref 492,.ref 493,.ref 494] 885 886),
(496,uO (stB 67) "_law_letters" "law_nt0056_01" 850 495),
(502,kO "_law_world" "_law_world" 888 379 1 3 497 true 181 [.none,.ref 499,.ref 500,.ref 501] 895 896),
(503,uO (stB 68) "_law_world" "law_nt0056_01" 850 502),
(509,kO "_law_data" "_law_data" 898 388 2 3 504 true 181 [.none,.ref 506,.ref 507,.ref 508] 907 908),
(510,uO (stB 69) "_law_data" "law_nt0056_01" 850 509),
(516,kO "_law_bases" "_law_bases" 910 404 1 3 511 true 181 [.none,.ref 513,.ref 514,.ref 515] 918 919),
(517,uO (stB 70) "_law_bases" "law_nt0056_01" 850 516),
(523,kO "_law_is_whole" "_law_is_whole" 921 411 3 3 518 true 181 [.none,.ref 520,.ref 521,.ref 522] 936 937),
(524,uO (stB 71) "_law_is_whole" "law_nt0056_01" 850 523),
(528,kO "_law_boundaries" "_law_boundaries" 939 442 3 3 525 true 181 [.none,.none,.none,.ref 527] 942 943),
(529,uO (stB 72) "_law_boundaries" "law_nt0056_01" 850 528),
(535,kO "_law_title" "_law_title" 945 457 1 3 530 true 181 [.none,.ref 532,.ref 533,.ref 534] 953 954),
(536,uO (stB 73) "_law_title" "law_nt0056_01" 850 535),
(540,kO "_law_asked_right" "_law_asked_right" 956 468 4 3 537 true 181 [.none,.none,.none,.ref 539] 959 960),
(541,uO (stB 74) "_law_asked_right" "law_nt0056_01" 850 540),
(545,kO "law" "law" 962 477 1 3 542 true 181 [.none,.none,.none,.ref 544] 965 966),
(546,uO (stB 75) "law" "law_nt0056_01" 850 545)]
noncomputable def mrg:Nat->Nat->Frag->List Obj->List Obj
 | 0,_,_,_=>[]
 | n+1,i,K,r=>match K with
  | (a,o)::K'=>(match Nat.beq a i with
   | true=>o::mrg n (i+1) K' r
   | false=>(match r with
    | x::r'=>x::mrg n (i+1) K r'
    | []=>[]))
  | []=>r
noncomputable def RR:Params->List Obj:=fun P=>[
PySem.W.boot_o_0 P,
PySem.W.boot_o_1 P,
PySem.W.boot_o_2 P,
PySem.W.boot_o_4 P,
PySem.W.boot_o_5 P,
PySem.W.boot_o_6 P,
PySem.W.boot_o_7 P,
PySem.W.boot_o_8 P,
PySem.W.boot_o_9 P,
PySem.W.boot_o_10 P,
tO [],
gO .none [.int 1 0,.int 0 0,.ref 20,.int 13 0,.int 0 0,.ref 27,.int 16 0,.int 0 0,.ref 34,.int 19 0,.int 0 0,.ref 41,.int 22 0,.int 0 0,.ref 48,.int 27 0,.int 0 0,.ref 55,.int 35 0,.int 0 0,.ref 62,.int 42 0,.int 0 0,.ref 69,.int 44 0,.int 0 0,.ref 76,.int 46 0,.int 0 0,.ref 83,.int 54 0,.int 0 0,.ref 90,.int 62 0,.int 0 0,.ref 97,.int 67 0,.int 0 0,.ref 104,.int 74 0,.int 0 0,.ref 111,.int 86 0,.int 0 0,.ref 118,.int 92 0,.int 0 0,.ref 125,.int 97 0,.int 0 0,.ref 132,.int 105 0,.int 0 0,.ref 140,.int 108 0,.int 0 0,.ref 148,.int 111 0,.int 0 0,.ref 155,.int 116 0,.int 0 0,.ref 162,.int 121 0,.int 0 0,.ref 167,.int 124 0,.int 0 0,.ref 174,.int 132 0,.int 0 0,.ref 180,.int 145 0,.int 0 0,.ref 188,.int 149 0,.int 0 0,.ref 195,.int 160 0,.int 0 0,.ref 202,.int 162 0,.int 0 0,.ref 209,.int 193 0,.int 0 0,.ref 258,.int 205 0,.int 0 0,.ref 265,.int 233 0,.int 0 0,.ref 314,.int 261 0,.int 0 0,.ref 363,.int 290 0,.int 0 0,.ref 410,.int 296 0,.int 0 0,.ref 417,.int 316 0,.int 0 0,.ref 424,.int 332 0,.int 0 0,.ref 431,.int 334 0,.int 0 0,.ref 436,.int 337 0,.int 0 0,.ref 441,.int 340 0,.int 0 0,.ref 448,.int 344 0,.int 0 0,.ref 455,.int 351 0,.int 0 0,.ref 462,.int 356 0,.int 0 0,.ref 467,.int 361 0,.int 0 0,.ref 474,.int 373 0,.int 0 0,.ref 481,.int 375 0,.int 0 0,.ref 488,.int 377 0,.int 0 0,.ref 495,.int 379 0,.int 0 0,.ref 502,.int 388 0,.int 0 0,.ref 509,.int 404 0,.int 0 0,.ref 516,.int 411 0,.int 0 0,.ref 523,.int 442 0,.int 0 0,.ref 528,.int 457 0,.int 0 0,.ref 535,.int 468 0,.int 0 0,.ref 540,.int 477 0,.int 0 0,.ref 545],
kO "<module>" "<module>" 182 1 0 0 11 false 181 [.none,.none,.none,.none] 185 186,
{ cls:=.type "frame",slots:=#[some (.ref 13),some (.ref 3),some (.ref 3),none,some (.str "__main__" 164),none,some (.ref 0)] },
tO [],
eO,
tS [("k",190)],
tO [],
vO (stB 0) "_wall",
kO "_wall" "_wall" 187 1 1 3 15 true 181 [.none,.ref 17,.ref 18,.ref 19] 191 192,
uO (stB 0) "_wall" "__main__" 164 20,
tO [],
eO,
tS [("code",215),("data",216),("found",217)],
tO [],
vO (stB 10) "simple_upper",
tO [],
eO,
tS [("code",224),("data",225),("found",226)],
tO [],
vO (stB 11) "simple_lower",
tO [],
eO,
tS [("code",233),("data",234),("found",235)],
tO [],
vO (stB 12) "simple_title",
tO [],
eO,
tS [("language",242),("at",243),("sign",244)],
tO [],
vO (stB 13) "case_base",
tO [],
eO,
tS [("text",251),("at",252),("data",253)],
tO [],
vO (stB 14) "case_after_cased",
kO "case_after_cased" "case_after_cased" 248 27 3 3 50 true 181 [.none,.ref 52,.ref 53,.ref 54] 254 255,
uO (stB 14) "case_after_cased" "unicore.casing" 194 55,
tO [],
eO,
tS [("text",260),("at",261),("data",262),("code",263)],
tO [],
vO (stB 15) "case_before_cased",
kO "case_before_cased" "case_before_cased" 257 35 3 3 57 true 181 [.none,.ref 59,.ref 60,.ref 61] 264 265,
uO (stB 15) "case_before_cased" "unicore.casing" 194 62,
tO [],
eO,
tS [("text",270),("at",271),("data",272)],
tO [],
vO (stB 16) "case_final_sigma",
kO "case_final_sigma" "case_final_sigma" 267 42 3 3 64 true 181 [.none,.ref 66,.ref 67,.ref 68] 273 274,
uO (stB 16) "case_final_sigma" "unicore.casing" 194 69,
tO [],
eO,
tS [("code",279),("data",280)],
tO [],
vO (stB 17) "case_is_apart",
kO "case_is_apart" "case_is_apart" 276 44 2 3 71 true 181 [.none,.ref 73,.ref 74,.ref 75] 281 282,
uO (stB 17) "case_is_apart" "unicore.casing" 194 76,
tO [],
eO,
tS [("text",287),("at",288),("data",289)],
tO [],
vO (stB 18) "case_after_soft_dotted",
kO "case_after_soft_dotted" "case_after_soft_dotted" 284 46 3 3 78 true 181 [.none,.ref 80,.ref 81,.ref 82] 290 291,
uO (stB 18) "case_after_soft_dotted" "unicore.casing" 194 83,
tO [],
eO,
tS [("text",296),("at",297),("data",298)],
tO [],
vO (stB 19) "case_after_i",
kO "case_after_i" "case_after_i" 293 54 3 3 85 true 181 [.none,.ref 87,.ref 88,.ref 89] 299 300,
uO (stB 19) "case_after_i" "unicore.casing" 194 90,
tO [],
eO,
tS [("text",305),("at",306),("data",307),("code",308)],
tO [],
vO (stB 20) "case_more_above",
kO "case_more_above" "case_more_above" 302 62 3 3 92 true 181 [.none,.ref 94,.ref 95,.ref 96] 309 310,
uO (stB 20) "case_more_above" "unicore.casing" 194 97,
tO [],
eO,
tS [("text",315),("at",316),("data",317),("code",318)],
tO [],
vO (stB 21) "case_before_dot",
kO "case_before_dot" "case_before_dot" 312 67 3 3 99 true 181 [.none,.ref 101,.ref 102,.ref 103] 319 320,
uO (stB 21) "case_before_dot" "unicore.casing" 194 104,
tO [],
eO,
tS [("word",325),("text",326),("at",327),("data",328)],
tO [],
vO (stB 22) "case_context",
kO "case_context" "case_context" 322 74 4 3 106 true 181 [.none,.ref 108,.ref 109,.ref 110] 329 330,
uO (stB 22) "case_context" "unicore.casing" 194 111,
tO [],
eO,
tS [("word",335),("text",336),("at",337),("data",338),("language",339),("holds",340)],
tO [],
vO (stB 23) "case_condition",
kO "case_condition" "case_condition" 332 86 5 3 113 true 181 [.none,.ref 115,.ref 116,.ref 117] 341 342,
uO (stB 23) "case_condition" "unicore.casing" 194 118,
tO [],
eO,
tS [("words",347),("text",348),("at",349),("data",350),("language",351),("word",352)],
tO [],
vO (stB 24) "case_conditions",
kO "case_conditions" "case_conditions" 344 92 5 3 120 true 181 [.none,.ref 122,.ref 123,.ref 124] 353 354,
uO (stB 24) "case_conditions" "unicore.casing" 194 125,
tO [],
eO,
tS [("text",359),("at",360),("data",361),("name",362),("language",363),("plain",364),("mapping",365),("words",366)],
tO [],
vO (stB 25) "case_special",
tO [],
eO,
tS [("text",374),("at",375),("data",376),("language",377),("found",378)],
tO [],
vO (stB 26) "lower_at",
tO [],
eO,
tS [("text",386),("at",387),("data",388),("language",389),("found",390)],
tO [],
vO (stB 27) "title_at",
tO [],
eO,
tS [("pieces",397),("found",398),("piece",399)],
tO [],
vO (stB 28) "case_joined",
tO [],
eO,
tS [("text",406),("low",407),("high",408),("data",409),("at",410)],
tO [],
vO (stB 29) "case_first_cased",
tO [],
eO,
vO (stB 30) "case_segments",
tO [],
eO,
tS [("text",423),("at",424),("high",425),("is_sharp",426),("place",427)],
tO [],
vO (stB 31) "case_dutch",
kO "case_dutch" "case_dutch" 420 124 3 3 169 true 181 [.none,.ref 171,.ref 172,.ref 173] 428 429,
uO (stB 31) "case_dutch" "unicore.casing" 194 174,
tO [],
eO,
vO (stB 32) "title_pieces",
tO [],
eO,
tS [("text",442),("data",443),("words",444),("language",445)],
tO [],
vO (stB 33) "title",
tO [],
eO,
tS [("firsts",456),("number",457),("low",458),("high",459),("middle",460)],
tO [],
vO (stB 36) "place_by_half",
tO [],
eO,
tS [("one",469),("other",470)],
tO [],
vO (stB 38) "range_are_like",
tO [],
gO (.type "builtin_function_or_method") [.builtin "type.__prepare__",.type "type"],
dO P [("__module__",481,.str "unicore.ranges" 464),("__qualname__",483,.str "RangeMap" 482),("__firstlineno__",485,.int 162 484),("__init__",493,.ref 217),("get",501,.ref 224),("put",516,.ref 231),("ranges",523,.ref 238),("set_of",531,.ref 245),("__static_attributes__",535,.ref 246)] 9,
tO [],
gO .none [.int 164 0,.int 4 0,.ref 216,.int 169 0,.int 4 0,.ref 223,.int 172 0,.int 4 0,.ref 230,.int 187 0,.int 4 0,.ref 237,.int 190 0,.int 4 0,.ref 244],
kO "RangeMap" "RangeMap" 476 162 0 0 207 false 181 [.none,.none,.none,.none] 479 480,
{ cls:=.type "frame",slots:=#[some (.ref 209),some (.ref 3),some (.ref 206),none,some (.str "unicore.ranges" 464),none,some (.ref 0)] },
tO [],
eO,
tS [("self",489),("default",490)],
tO [],
vO (stM 39 0) "RangeMap.__init__",
tO [],
eO,
tS [("self",497),("code",498)],
tO [],
vO (stM 39 1) "RangeMap.get",
tO [],
eO,
tS [("self",505),("first",506),("last",507),("value",508),("low",509),("high",510),("behind",511),("starts",512),("values",513)],
tO [],
vO (stM 39 2) "RangeMap.put",
tO [],
eO,
tS [("self",520)],
tO [],
vO (stM 39 3) "RangeMap.ranges",
kO "ranges" "RangeMap.ranges" 517 187 1 3 232 true 181 [.none,.ref 234,.ref 235,.ref 236] 521 522,
uO (stM 39 3) "RangeMap.ranges" "unicore.ranges" 464 237,
tO [],
eO,
tS [("self",527),("value",528)],
tO [],
vO (stM 39 4) "RangeMap.set_of",
kO "set_of" "RangeMap.set_of" 524 190 2 3 239 true 181 [.none,.ref 241,.ref 242,.ref 243] 529 530,
uO (stM 39 4) "RangeMap.set_of" "unicore.ranges" 464 244,
gO (.type "super") [.ref 248,.ref 248,.ref 248],
gO (.type "builtin_function_or_method") [.builtin "object.__init_subclass__",.ref 248],
tO [],
eO,
tS [("found",548),("name",549)],
tO [],
vO (stB 41) "data_defaults",
tO [],
gO (.type "builtin_function_or_method") [.builtin "type.__prepare__",.type "type"],
dO P [("__module__",560,.str "unicore.data" 543),("__qualname__",562,.str "Data" 561),("__firstlineno__",564,.int 205 563),("__init__",571,.ref 273),("put",582,.ref 280),("get",591,.ref 287),("map_of",599,.ref 294),("__static_attributes__",604,.ref 295)] 8,
tO [],
gO .none [.int 207 0,.int 4 0,.ref 272,.int 213 0,.int 4 0,.ref 279,.int 216 0,.int 4 0,.ref 286,.int 221 0,.int 4 0,.ref 293],
kO "Data" "Data" 555 205 0 0 263 false 181 [.none,.none,.none,.none] 558 559,
{ cls:=.type "frame",slots:=#[some (.ref 265),some (.ref 3),some (.ref 262),none,some (.str "unicore.data" 543),none,some (.ref 0)] },
tO [],
eO,
tS [("self",568)],
tO [],
vO (stM 42 0) "Data.__init__",
tO [],
eO,
tS [("self",575),("name",576),("first",577),("last",578),("value",579)],
tO [],
vO (stM 42 1) "Data.put",
tO [],
eO,
tS [("self",586),("name",587),("code",588)],
tO [],
vO (stM 42 2) "Data.get",
tO [],
eO,
tS [("self",595),("name",596)],
tO [],
vO (stM 42 3) "Data.map_of",
gO (.type "super") [.ref 297,.ref 297,.ref 297],
gO (.type "builtin_function_or_method") [.builtin "object.__init_subclass__",.ref 297],
tO [],
gO (.type "builtin_function_or_method") [.builtin "type.__prepare__",.type "type"],
dO P [("__module__",649,.str "unicore.words" 612),("__qualname__",651,.str "WordPlaces" 650),("__firstlineno__",653,.int 233 652),("__init__",662,.ref 322),("sort",670,.ref 329),("left",679,.ref 336),("right",687,.ref 343),("flags",696,.ref 350),("__static_attributes__",699,.ref 351)] 9,
tO [],
gO .none [.int 235 0,.int 4 0,.ref 321,.int 239 0,.int 4 0,.ref 328,.int 242 0,.int 4 0,.ref 335,.int 250 0,.int 4 0,.ref 342,.int 255 0,.int 4 0,.ref 349],
kO "WordPlaces" "WordPlaces" 644 233 0 0 312 false 181 [.none,.none,.none,.none] 647 648,
{ cls:=.type "frame",slots:=#[some (.ref 314),some (.ref 3),some (.ref 311),none,some (.str "unicore.words" 612),none,some (.ref 0)] },
tO [],
eO,
tS [("self",657),("text",658),("data",659)],
tO [],
vO (stM 51 0) "WordPlaces.__init__",
tO [],
eO,
tS [("self",666),("index",667)],
tO [],
vO (stM 51 1) "WordPlaces.sort",
tO [],
eO,
tS [("self",674),("at",675),("left",676)],
tO [],
vO (stM 51 2) "WordPlaces.left",
tO [],
eO,
tS [("self",683),("at",684)],
tO [],
vO (stM 51 3) "WordPlaces.right",
tO [],
eO,
tS [("self",691),("index",692),("many",693)],
tO [],
vO (stM 51 4) "WordPlaces.flags",
gO (.type "super") [.ref 353,.ref 353,.ref 353],
gO (.type "builtin_function_or_method") [.builtin "object.__init_subclass__",.ref 353],
tO [],
gO (.type "builtin_function_or_method") [.builtin "type.__prepare__",.type "type"],
dO P [("__module__",714,.str "unicore.words" 612),("__qualname__",716,.str "WordWalk" 715),("__firstlineno__",718,.int 261 717),("__init__",724,.ref 369),("sort",732,.ref 376),("left",740,.ref 383),("right",748,.ref 390),("flags",756,.ref 397),("__static_attributes__",763,.ref 398)] 9,
tO [],
gO .none [.int 263 0,.int 4 0,.ref 368,.int 279 0,.int 4 0,.ref 375,.int 282 0,.int 4 0,.ref 382,.int 285 0,.int 4 0,.ref 389,.int 288 0,.int 4 0,.ref 396],
kO "WordWalk" "WordWalk" 709 261 0 0 361 false 181 [.none,.none,.none,.none] 712 713,
{ cls:=.type "frame",slots:=#[some (.ref 363),some (.ref 3),some (.ref 360),none,some (.str "unicore.words" 612),none,some (.ref 0)] },
tO [],
eO,
vO (stM 52 0) "WordWalk.__init__",
tO [],
eO,
tS [("self",728),("index",729)],
tO [],
vO (stM 52 1) "WordWalk.sort",
tO [],
eO,
tS [("self",736),("at",737)],
tO [],
vO (stM 52 2) "WordWalk.left",
tO [],
eO,
tS [("self",744),("at",745)],
tO [],
vO (stM 52 3) "WordWalk.right",
tO [],
eO,
tS [("self",752),("index",753)],
tO [],
vO (stM 52 4) "WordWalk.flags",
gO (.type "super") [.ref 400,.ref 400,.ref 400],
gO (.type "builtin_function_or_method") [.builtin "object.__init_subclass__",.ref 400],
tO [],
eO,
tS [("one",774),("between",775),("other",776)],
tO [],
vO (stB 53) "word_bridges",
tO [],
eO,
tS [("view",783),("at",784),("left",785),("after",786),("here",787)],
tO [],
vO (stB 54) "word_is_joined",
tO [],
eO,
tS [("view",794),("at",795),("size",796),("before",797),("after",798)],
tO [],
vO (stB 55) "word_rule",
tO [],
eO,
tS [("text",805),("at",806),("data",807)],
tO [],
vO (stB 56) "word_break",
tO [],
eO,
vO (stB 57) "word_boundaries",
tO [],
eO,
vO (stB 58) "word_segments",
tO [],
eO,
tS [("text",826),("at",827),("data",828)],
tO [],
vO (stB 59) "word_begin",
tO [],
eO,
tS [("text",835),("at",836),("data",837)],
tO [],
vO (stB 60) "word_end",
tO [],
eO,
tS [("text",844),("at",845),("data",846)],
tO [],
vO (stB 61) "word_at",
tO [],
eO,
vO (stB 63) "_law_deck",
tO [],
eO,
tS [("deck",861),("below",862),("figure",863),("cell",864)],
tO [],
vO (stB 64) "_law_draw",
tO [],
eO,
tS [("deck",871),("some",872)],
tO [],
vO (stB 65) "_law_pick",
tO [],
eO,
tO [],
tO [],
vO (stB 66) "_law_sorts",
tO [],
eO,
tO [],
tO [],
vO (stB 67) "_law_letters",
tO [],
eO,
tS [("deck",891),("sorts",892),("pictures",893),("code",894)],
tO [],
vO (stB 68) "_law_world",
tO [],
eO,
tS [("sorts",901),("pictures",902),("data",903),("code",904),("small",905),("large",906)],
tO [],
vO (stB 69) "_law_data",
tO [],
eO,
tS [("row",913),("found",914),("at",915),("sort",916),("is_along",917)],
tO [],
vO (stB 70) "_law_bases",
tO [],
eO,
tS [("row",924),("bases",925),("at",926),("k",927),("far",928),("left",929),("right",930),("beyond",931),("letters",932),("mids",933),("joining",934),("many",935)],
tO [],
vO (stB 71) "_law_is_whole",
tO [],
eO,
vO (stB 72) "_law_boundaries",
tO [],
eO,
tS [("text",948),("large",949),("found",950),("is_begun",951),("code",952)],
tO [],
vO (stB 73) "_law_title",
tO [],
eO,
vO (stB 74) "_law_asked_right",
tO [],
eO,
vO (stB 75) "law"]
noncomputable def HH:Params->Heap:=fun P=>⟨⟨mrg 547 0 (KK P) (RR P)⟩,{}⟩
noncomputable def ny (a b:Nat):List Stmt:=(stP.drop a).take (b-a)
noncomputable def VW:Program:={ Challenge.rw_nt0056_01.row.prog with main:={ Challenge.rw_nt0056_01.row.prog.main with body:=ny 0 1++ny 2 26++ny 28 32++ny 35 37++ny 38 40++ny 41 43++ny 44 62++ny 63 76 } }
noncomputable def LO:List Str:=[Str.ofString "lower_at",Str.ofString "title_at",Str.ofString "title_pieces",Str.ofString "title"]
noncomputable def T0 (P:Params):BT:=.node (boot_o_0 P) (.node (boot_o_1 P) (.node (boot_o_3 P) (.node (boot_o_7 P) .nil .nil) (.node (tO []) .nil .nil)) (.node (boot_o_5 P) (.node (boot_o_9 P) .nil .nil) (.node (kO "<module>" "<module>" 182 1 0 0 11 false 181 [.none,.none,.none,.none] 185 186) .nil .nil))) (.node (boot_o_2 P) (.node (boot_o_4 P) (.node (boot_o_8 P) .nil .nil) (.node eO .nil .nil)) (.node (boot_o_6 P) (.node (boot_o_10 P) .nil .nil) (.node { cls:=.type "frame",slots:=#[some (.ref 13),some (.ref 3),some (.ref 3),none,some (.str (Str.ofString "__main__") 164),none,some (.ref 0)] } .nil .nil)))
noncomputable def H0 (P:Params):Heap:=⟨⟨[boot_o_0 P,boot_o_1 P,boot_o_2 P,boot_o_3 P,boot_o_4 P,boot_o_5 P,boot_o_6 P,boot_o_7 P,boot_o_8 P,boot_o_9 P,boot_o_10 P,tO [],eO,kO "<module>" "<module>" 182 1 0 0 11 false 181 [.none,.none,.none,.none] 185 186,{ cls:=.type "frame",slots:=#[some (.ref 13),some (.ref 3),some (.ref 3),none,some (.str (Str.ofString "__main__") 164),none,some (.ref 0)] }]⟩,{}⟩
noncomputable def theP:Program:=Challenge.rw_nt0056_01.row.prog
noncomputable def EV:Env:={ scope:=theP.main.scope,locals:=mainNs,globals:=mainNs,cells:=[],code:=.ref 13,frame:=some 14 }
noncomputable def CD:Code:=.body (behindTheImports theP) EV
noncomputable def S0 (w:World) (os:OsState):SharedT:=⟨T0 w.params,15,{},#[],{},187,os⟩
noncomputable def KAd:List Addr:=[3,27,28,34,35,41,42,48,49,132,133,134,140,141,142,148,149,155,156,162,163,167,168,176,180,181,182,188,189,195,196,202,203,216,217,223,224,230,231,246,247,248,249,250,258,259,272,273,279,280,286,287,293,294,295,296,297,298,299,302,303,304,305,306,307,308,321,322,328,329,335,336,342,343,349,350,351,352,353,354,355,368,369,375,376,382,383,389,390,396,397,398,399,400,401,402,410,411,417,418,424,425,431,432,436,437,441,442,448,449,455,456,462,463,467,468,474,475,481,482,488,489,495,496,502,503,509,510,516,517,523,524,528,529,535,536,540,541,545,546]
noncomputable def HK:Hook:=kHook KK KAd fun _=>by kernel_rfl

theorem jH:∀ w:World,(fencedOpening treeTable theP w 6460).map (fun s=>(s.heap,s.gens,s.drawn,s.toks))=some (boot_heap w.params,Array.mk [],boot_drawn,boot_toks):=boot_open (p:=theP) (N:=6460) (by kernel_rfl) (by decide) (fun s=>by kernel_rfl)
theorem jI (w:World):((boot_heap w.params).isNs mainGlobals&&(#[]:Array GenState).size==0,(boot_heap w.params).objs.size,(boot_heap w.params).nsMap mainGlobals "__annotations__")=(true,11,some (.ref 6)):=by kernel_rfl
theorem gl (w:World) (os:OsState):topGo treeTable theP w 11 (some (.ref 6)) 12 ⟨boot_heap w.params,#[],boot_drawn,boot_toks,os⟩ (topStub theP)=some (⟨H0 w.params,#[],{},187,os⟩,⟨denote treeTable CD,CD,default,[topFrame default]⟩):=by kernel_rfl
theorem gm (w:World) (os:OsState):segRun treeTable theP w 11 (some (.ref 6)) 1 1 ⟨H0 w.params,#[],{},187,os⟩ (blockOf (behindTheImports theP) EV CD default [topFrame default])=some (.next,(S0 w os).abs,CD,default):=by kernel_rfl
theorem gn (w:World) (os:OsState):topRun treeTable theP w 11 (some (.ref 6)) 2 ⟨HH w.params,#[],{},968,os⟩ ⟨doneF .next,CD,⟨477,0,494,65⟩,[topFrame default]⟩=some ⟨HH w.params,#[],{},968,os⟩:=by kernel_rfl

theorem mA (w:World) (os:OsState):(segRunT treeTable theP w 11 (some (.ref 6)) 1 6000 (S0 w os) (piecesOf (behindTheImports theP) EV CD default [topFrame default])).map (fun r=>(r.1,r.2.1.abs,r.2.2))=some (.next,⟨HH w.params,#[],{},968,os⟩,CD,⟨477,0,494,65⟩):=by kernel_rfl

theorem gp (w:World) (os:OsState):topRun treeTable theP w 11 (some (.ref 6)) (12+(1+(6000+2))) ⟨boot_heap w.params,#[],boot_drawn,boot_toks,os⟩ (topStub theP)=some ⟨HH w.params,#[],{},968,os⟩:=by
 obtain ⟨⟨f,s,c,p⟩,h1,h2⟩:=Option.map_eq_some_iff.mp (mA w os)
 have h3:=segRun_of h1
 obtain ⟨rfl,h4,rfl,rfl⟩:f=.next/\s.abs=⟨HH w.params,#[],{},968,os⟩/\c=CD/\p=⟨477,0,494,65⟩:=by
  have:=h2
  simp only [Prod.mk.injEq] at this
  exact this
 rw [h4] at h3
 refine go_top (gl w os) (piece_block (gm w os) ?_)
 have:=piece_app (rest:=[]) h3 (piece_nil (gn w os))
 rw [List.append_nil] at this
 exact this
theorem kL1 (w:World):staticsOk (importedModules theP.main.body) (boot_heap w.params) (HH w.params)=true:=by kernel_rfl
theorem kL2 (w:World):namesBound theP (HH w.params)=true:=by kernel_rfl
theorem kL4 (w:World):laidKept (boot_heap w.params) (HH w.params)=true:=by kernel_rfl
theorem kL5 (w:World) (os:OsState):Hook.obs HK ⟨HH w.params,#[],{},968,os⟩=Hook.val HK w:=by kernel_rfl
theorem kL6 (w:World) (os:OsState):openSeen VW LO (importedModules theP.main.body) (fun s=>xlAt VW [] s&&recOk (RowW.records Challenge.rw_nt0056_01.row.toRowW) s) true ⟨HH w.params,#[],{},968,os⟩=openGood VW LO:=by kernel_rfl
theorem jJ (w:World):(fun os=>((staticsOk (importedModules theP.main.body) (boot_heap w.params) (HH w.params)&&namesBound theP (HH w.params)&&gensDone ⟨HH w.params,#[],{},968,os⟩&&laidKept (boot_heap w.params) (HH w.params)),
    openSeen VW LO (importedModules theP.main.body) (fun s=>xlAt VW [] s&&recOk (RowW.records Challenge.rw_nt0056_01.row.toRowW) s) true ⟨HH w.params,#[],{},968,os⟩,Hook.obs HK ⟨HH w.params,#[],{},968,os⟩))=fun _=>(true,openGood VW LO,Hook.val HK w):=by
 funext os
 rw [kL1,kL2,show gensDone ⟨HH w.params,#[],{},968,os⟩=true by kernel_rfl,kL4,kL5,kL6];rfl
theorem left:LeftO theP VW LO (fun s=>xlAt VW [] s&&recOk (RowW.records Challenge.rw_nt0056_01.row.toRowW) s) (Hook.obs HK) (Hook.val HK) 6460:=LeftO.of_pieces jH jI gp (by decide) jJ
theorem kW:Challenge.rw_nt0056_01.wellSaid=true:=by
 unfold OpenLaw.wellSaid OpenRow.wellSaid OpenRow.partSaid looksOpen
 with_reducible repeat' refine Bool.and_eq_true_iff.mpr ⟨?_,?_⟩
 all_goals decide +kernel
theorem hdK (walk:∀ d kwd,defOf VW (Str.ofString "law")=some (d,kwd)->WalkO VW LO (XL VW []) (Hook.says HK) Challenge.rw_nt0056_01.row.toRowW d kwd fun f vs=>PySem.call f vs):PySem.Challenge.rw_nt0056_01.Holds:=by
 refine holds_law kW fun said=>?_
 refine holds_open (q:=VW) (loose:=LO) (Xt:=fun s=>xlAt VW [] s&&recOk (RowW.records Challenge.rw_nt0056_01.row.toRowW) s) (XP:=XL VW []) (Yf:=Hook.obs HK) (Ya:=Hook.val HK) (YP:=Hook.says HK) (N:=6460) left (Hook.of HK) (Hook.keeps HK) (fun s e=>xl_of s (Bool.and_eq_true_iff.mp e).1) XL.keeps (by rfl) (by rfl) (by rfl) (fun s e=>recFacts_of (Bool.and_eq_true_iff.mp e).2) (by rfl) said (by decide +kernel) ⟨rfl,rfl,rfl,rfl,rfl,by decide +kernel⟩ ?hw ?hc
 case hw=>w_witness2
 case hc=>exact walk _ _ rfl

set_option genSizeOf false
set_option genInjectivity false
inductive Tm where
 | v (i:Nat)
 | k (n:Nat)
 | a (x y:Tm)
 | s (x y:Tm)
 | t (n:Nat) (x:Tm)
 | g (x:Tm)
noncomputable def Tm.z (c:List Int):Tm->Int
 | .v i=>c.getD i 0
 | .k n=>n
 | .a x y=>x.z c+y.z c
 | .s x y=>x.z c-y.z c
 | .t n x=>n*x.z c
 | .g x=>-x.z c
noncomputable def Tm.n (c:List Nat):Tm->Nat
 | .v i=>c.getD i 0
 | .k n=>n
 | .a x y=>x.n c+y.n c
 | .t n x=>n*x.n c
 | _=>0
noncomputable def Tm.ok:Tm->Bool
 | .a x y=>x.ok&&y.ok
 | .t _ x=>x.ok
 | .s _ _=>false
 | .g _=>false
 | _=>true
noncomputable def px:Nat->Int->List Int->List Int
 | 0,x,q=>(q.headD 0+x)::q.tail
 | i+1,x,q=>q.headD 0::px i x q.tail
noncomputable def Tm.p:Tm->Int->List Int->List Int
 | .v i,m,q=>px (i+1) m q
 | .k n,m,q=>px 0 (m*n) q
 | .a x y,m,q=>x.p m (y.p m q)
 | .s x y,m,q=>x.p m (y.p (-m) q)
 | .t n x,m,q=>x.p (m*n) q
 | .g x,m,q=>x.p (-m) q
noncomputable def ev:List Int->List Int->Int
 | [],_=>0
 | x::xs,c=>x*c.headD 0+ev xs c.tail
inductive Cn where
 | le (x y:Tm)
 | lt (x y:Tm)
 | eq (x y:Tm)
 | nle (x y:Tm)
 | nlt (x y:Tm)
 | no
noncomputable def Cn.z (c:List Int):Cn->Prop
 | .le x y=>x.z c<=y.z c
 | .lt x y=>x.z c<y.z c
 | .eq x y=>x.z c=y.z c
 | .nle x y=>¬ x.z c<=y.z c
 | .nlt x y=>¬ x.z c<y.z c
 | .no=>False
noncomputable def Cn.n (c:List Nat):Cn->Prop
 | .le x y=>x.n c<=y.n c
 | .lt x y=>x.n c<y.n c
 | .eq x y=>x.n c=y.n c
 | .nle x y=>¬ x.n c<=y.n c
 | .nlt x y=>¬ x.n c<y.n c
 | .no=>False
noncomputable def Cn.t:Cn->Tm
 | .le x y=>.s y x
 | .lt x y=>.s y (.a x (.k 1))
 | .eq x y=>.s y x
 | .nle x y=>.s x (.a y (.k 1))
 | .nlt x y=>.s x y
 | .no=>.s (.k 0) (.k 1)
noncomputable def Cn.ok:Cn->Bool
 | .le x y=>x.ok&&y.ok
 | .lt x y=>x.ok&&y.ok
 | .eq x y=>x.ok&&y.ok
 | .nle x y=>x.ok&&y.ok
 | .nlt x y=>x.ok&&y.ok
 | .no=>true
noncomputable def Cn.isEq:Cn->Bool | .eq _ _=>true | _=>false
inductive Hs where
 | z
 | w (m:Int) (c:Cn) (r:Hs)
noncomputable abbrev Hs.h (c:Cn) (r:Hs):Hs:=.w 1 c r
noncomputable def Hs.z' (c:List Int) (g:Prop):Hs->Prop
 | .z=>g
 | .w _ x r=>x.z c->r.z' c g
noncomputable def Hs.n' (c:List Nat) (g:Prop):Hs->Prop
 | .z=>g
 | .w _ x r=>x.n c->r.n' c g
noncomputable def Hs.p:Hs->List Int->List Int
 | .z,q=>q
 | .w m x r,q=>x.t.p (-m) (r.p q)
noncomputable def Hs.ok:Hs->Bool
 | .z=>true
 | .w m x r=>(x.isEq || decide (0<=m))&&r.ok
noncomputable def Hs.okN:Hs->Bool
 | .z=>true
 | .w _ x r=>x.ok&&r.okN
noncomputable def Hs.eqs:Hs->Bool
 | .z=>true
 | .w _ x r=>x.isEq&&r.eqs
noncomputable def zeros:List Int->Bool
 | []=>true
 | x::xs=>decide (x=0)&&zeros xs
noncomputable def pos:List Int->Bool
 | []=>true
 | x::xs=>decide (0<=x)&&pos xs
noncomputable def lX (q:List Int):Bool:=decide (0<=q.headD 0)&&zeros q.tail
noncomputable def gq (h:Hs) (g:Cn):Bool:=h.ok&&cond g.isEq (h.eqs&&zeros (h.p (g.t.p 1 []))) (lX (h.p (g.t.p 1 [])))
noncomputable def gr (h:Hs) (g:Cn):Bool:=h.ok&&((h.okN&&g.ok)&&cond g.isEq (h.eqs&&zeros (h.p (g.t.p 1 []))) (pos (h.p (g.t.p 1 []))))
theorem an1 {a b:Bool} (h:(a&&b)=true):a=true:=by cases a with | true=>rfl | false=>exact Bool.noConfusion h
theorem an2 {a b:Bool} (h:(a&&b)=true):b=true:=by cases a with | true=>exact h | false=>exact Bool.noConfusion h
theorem rK (q c:List Int):ev q c=q.headD 0*c.headD 0+ev q.tail c.tail:=by
 cases q with
 | nil=>exact (by rw [Int.zero_mul];rfl:(0:Int)=0*c.headD 0+0)
 | cons _ _=>rfl
theorem ar0 (a b e:Int) (d:Int):(a+b)*d+e=b*d+(a*d+e):=by rw [Int.add_mul,Int.add_comm (a*d),Int.add_assoc]
theorem vY (c:List Int) (i:Nat):c.tail.getD i 0=c.getD (i+1) 0:=by cases c <;> rfl
theorem nz (c:List Int):c.headD 0=c.getD 0 0:=by cases c <;> rfl
theorem v9:∀ (i:Nat) (x:Int) (q c:List Int),ev (px i x q) c=x*c.getD i 0+ev q c
 | 0,x,q,c=>by rw [rK q c,← nz];exact ar0 _ _ _ _
 | i+1,x,q,c=>by
  rw [rK q c,← vY]
  exact (congrArg (_+·) (v9 i x q.tail c.tail)).trans (Int.add_left_comm _ _ _)
theorem Tm.z.s {c:List Int} {x y:Tm}:(Tm.s x y).z c=x.z c-y.z c:=rfl
theorem Cn.z.le {c:List Int} {x y:Tm}:(Cn.le x y).z c=(x.z c<=y.z c):=rfl
theorem Cn.z.lt {c:List Int} {x y:Tm}:(Cn.lt x y).z c=(x.z c<y.z c):=rfl
theorem Cn.z.eq {c:List Int} {x y:Tm}:(Cn.eq x y).z c=(x.z c=y.z c):=rfl
theorem Cn.z.nle {c:List Int} {x y:Tm}:(Cn.nle x y).z c=(¬ x.z c<=y.z c):=rfl
theorem Cn.z.nlt {c:List Int} {x y:Tm}:(Cn.nlt x y).z c=(¬ x.z c<y.z c):=rfl
theorem pA (c:List Int):∀ (t:Tm) (m:Int) (q:List Int),ev (t.p m q) (1::c)=m*t.z c+ev q (1::c)
 | .v i,m,q=>v9 _ _ _ _
 | .k n,m,q=>(v9 _ _ _ _).trans (congrArg (·+_) (Int.mul_one _))
 | .a x y,m,q=>(pA c x _ _).trans ((congrArg (_+·) (pA c y _ _)).trans ((Int.add_assoc _ _ _).symm.trans (congrArg (·+_) (Int.mul_add _ _ _).symm)))
 | .s x y,m,q=>(pA c x _ _).trans ((congrArg (_+·) (pA c y _ _)).trans ((Int.add_assoc _ _ _).symm.trans (congrArg (·+_) (by rw [Tm.z.s,Int.mul_sub,Int.neg_mul];rfl))))
 | .t n x,m,q=>(pA c x _ _).trans (congrArg (·+_) (Int.mul_assoc _ _ _))
 | .g x,m,q=>(pA c x _ _).trans (congrArg (·+_) ((Int.neg_mul _ _).trans (Int.mul_neg _ _).symm))
theorem Cn.w_pos {c:List Int}:∀ {x:Cn},x.z c->0<=x.t.z c
 | .le _ _,h=>Int.sub_nonneg_of_le h
 | .lt _ _,h=>Int.sub_nonneg_of_le h
 | .eq _ _,h=>Int.sub_nonneg_of_le (Int.le_of_eq h)
 | .nle _ _,h=>Int.sub_nonneg_of_le (Int.not_le.mp h)
 | .nlt _ _,h=>Int.sub_nonneg_of_le (Int.not_lt.mp h)
theorem Cn.w_eq {c:List Int} {x:Cn} (h:x.z c) (e:x.isEq=true):x.t.z c=0:=by
 cases x
 case eq=>exact Int.sub_eq_zero_of_eq h.symm
 all_goals exact Bool.noConfusion e
theorem Cn.of_w {c:List Int}:∀ {x:Cn},x.isEq=false->0<=x.t.z c->x.z c
 | .le _ _,_,h=>Int.le_of_sub_nonneg h
 | .lt _ _,_,h=>Int.le_of_sub_nonneg h
 | .nle _ _,_,h=>Int.not_le.mpr (Int.le_of_sub_nonneg h)
 | .nlt _ _,_,h=>Int.not_lt.mpr (Int.le_of_sub_nonneg h)
 | .no,_,h=>absurd h (by decide:¬ (0:Int)<=((0:Nat):Int)-((1:Nat):Int))
 | .eq _ _,e,_=>Bool.noConfusion e
theorem Cn.of_eq {c:List Int} {x:Cn} (e:x.isEq=true) (h:0=x.t.z c):x.z c:=by
 cases x
 case eq=>exact (Int.eq_of_sub_eq_zero h.symm).symm
 all_goals exact Bool.noConfusion e
theorem ar1 {m w e f:Int} (h:0<=m*w) (k:e<=f):-m*w+e<=f:=by
 rw [Int.neg_mul,Int.add_comm]
 exact Int.le_trans (Int.sub_le_self _ h) k
theorem Hs.sound (c:List Int) (g:Prop):∀ (h:Hs) (q:List Int),h.ok=true->(ev (h.p q) (1::c)<=ev q (1::c)->(h.eqs=true->ev (h.p q) (1::c)=ev q (1::c))->g)->h.z' c g
 | .z,q,_,k=>k (Int.le_refl _) fun _=>rfl
 | .w m x r,q,o,k=>fun hx=>Hs.sound c g r q (an2 o) fun h1 h2=>k
  (Int.le_trans (Int.le_of_eq (pA c x.t (-m) (r.p q))) (ar1 ((Bool.or_eq_true _ _ ▸ an1 o).elim (fun h=>by rw [Cn.w_eq hx h,Int.mul_zero];exact Int.le_refl 0) fun h=>Int.mul_nonneg (of_decide_eq_true h) (Cn.w_pos hx)) h1))
  fun h3=>(pA c x.t (-m) (r.p q)).trans (by rw [Cn.w_eq hx (an1 h3),Int.mul_zero,Int.zero_add];exact h2 (an2 h3))
theorem vc:∀ (q c:List Int),zeros q=true->ev q c=0
 | [],_,_=>rfl
 | x::xs,c,h=>by
  cases of_decide_eq_true (an1 h)
  exact (congrArg (_+·) (vc xs c.tail (an2 h))).trans (by rw [Int.zero_mul];rfl)
theorem nA:∀ (q c:List Int),(∀ i,0<=c.getD i 0)->pos q=true->0<=ev q c
 | [],_,_,_=>Int.le_refl 0
 | x::xs,c,hc,h=>Int.add_nonneg (Int.mul_nonneg (of_decide_eq_true (an1 h)) (nz c ▸ hc 0)) (nA xs c.tail (fun i=>vY c i ▸ hc (i+1)) (an2 h))
theorem pB (q c:List Int) (h:lX q=true):0<=ev q (1::c):=by
 rw [rK,vc _ _ (an2 h)]
 exact Int.add_nonneg (Int.mul_nonneg (of_decide_eq_true (an1 h)) (by decide:(0:Int)<=1)) (Int.le_refl 0)
theorem ev1 (c:List Int) (t:Tm):ev (t.p 1 []) (1::c)=t.z c:=(pA c t 1 []).trans ((Int.add_zero _).trans (Int.one_mul _))
theorem tH {c:List Int} {h:Hs} {g:Cn} (o:h.ok=true) (k1:g.isEq=true->(h.eqs&&zeros (h.p (g.t.p 1 [])))=true) (k2:g.isEq=false->0<=ev (h.p (g.t.p 1 [])) (1::c)):h.z' c (g.z c) :=
 Hs.sound c _ h (g.t.p 1 []) o fun h1 h2=>by
  cases e:g.isEq with
  | true=>exact Cn.of_eq e ((vc _ _ (an2 (k1 e))).symm.trans ((h2 (an1 (k1 e))).trans (ev1 c _)))
  | false=>exact Cn.of_w e (Int.le_trans (k2 e) (Int.le_trans h1 (Int.le_of_eq (ev1 c _))))
theorem zd (c:List Int) (h:Hs) (g:Cn) (k:gq h g=true):h.z' c (g.z c) :=
 tH (an1 k) (fun e=>by have:=an2 k;rw [e] at this;exact this) fun e=>pB _ _ (by have:=an2 k;rw [e] at this;exact this)
theorem ve:∀ (c:List Nat) (i:Nat),(c.map (fun n:Nat=>(n:Int))).getD i 0=((c.getD i 0:Nat):Int)
 | [],_=>rfl
 | _::_,0=>rfl
 | _::c,i+1=>ve c i
theorem Tm.cast (c:List Nat):∀ (t:Tm),t.ok=true->t.z (c.map (fun n:Nat=>(n:Int)))=((t.n c:Nat):Int)
 | .v i,_=>ve c i
 | .k n,_=>rfl
 | .a x y,h=>(congrArg (·+_) (Tm.cast c x (an1 h))).trans (congrArg (_+·) (Tm.cast c y (an2 h)))
 | .t n x,h=>congrArg (_*·) (Tm.cast c x h)
theorem Cn.cast (c:List Nat) (x:Cn) (h:x.ok=true):x.z (c.map (fun n:Nat=>(n:Int)))↔x.n c:=by
 cases x
 case le x y=>rw [Cn.z.le,Tm.cast c x (an1 h),Tm.cast c y (an2 h)];exact Int.ofNat_le
 case lt x y=>rw [Cn.z.lt,Tm.cast c x (an1 h),Tm.cast c y (an2 h)];exact Int.ofNat_lt
 case eq x y=>rw [Cn.z.eq,Tm.cast c x (an1 h),Tm.cast c y (an2 h)];exact Int.ofNat_inj
 case nle x y=>rw [Cn.z.nle,Tm.cast c x (an1 h),Tm.cast c y (an2 h)];exact not_congr Int.ofNat_le
 case nlt x y=>rw [Cn.z.nlt,Tm.cast c x (an1 h),Tm.cast c y (an2 h)];exact not_congr Int.ofNat_lt
 case no=>exact Iff.rfl
theorem Hs.cast (c:List Nat) {g g':Prop} (hg:g->g'):∀ (h:Hs),h.okN=true->h.z' (c.map (fun n:Nat=>(n:Int))) g->h.n' c g'
 | .z,_,k=>hg k
 | .w m x r,o,k=>fun hx=>Hs.cast c hg r (an2 o) (k ((Cn.cast c x (an1 o)).mpr hx))
theorem zc (c:List Nat) (h:Hs) (g:Cn) (k:gr h g=true):h.n' c (g.n c):=by
 have k2:=an2 k
 refine Hs.cast c (Cn.cast c g (an2 (an1 k2))).mp h (an1 (an1 k2)) (tH (an1 k) (fun e=>by have:=an2 k2;rw [e] at this;exact this) fun e=>nA _ _ (fun i=>?_) (by have:=an2 k2;rw [e] at this;exact this))
 cases i with
 | zero=>exact (by decide:(0:Int)<=1)
 | succ i=>exact Int.le_trans (Int.natCast_nonneg (c.getD i 0)) (Int.le_of_eq (ve c i).symm)
set_option genInjectivity true

noncomputable abbrev Hs.m (c:Cn) (r:Hs):Hs:=.w (-1) c r
noncomputable abbrev v0:=Tm.v 0
noncomputable abbrev v1:=Tm.v 1
noncomputable abbrev v2:=Tm.v 2
noncomputable abbrev v3:=Tm.v 3
noncomputable abbrev v4:=Tm.v 4
noncomputable abbrev v5:=Tm.v 5
noncomputable abbrev k0:=Tm.k 0
noncomputable abbrev k1:=Tm.k 1
noncomputable abbrev k2:=Tm.k 2
noncomputable abbrev k3:=Tm.k 3
theorem cn (n:Nat):(0:Int)<=n:=Int.natCast_nonneg n
theorem cl {a b:Nat} (h:a<=b):(a:Int)<=b:=Int.ofNat_le.mpr h
theorem ct {a b:Nat} (h:a<b):(a:Int)<b:=Int.ofNat_lt.mpr h
theorem ce {a b:Nat} (h:a=b):(a:Int)=b:=Int.ofNat_inj.mpr h
theorem sn {a b:Nat} (h:b<=a):a-b+b=a:=Nat.sub_add_cancel h
theorem sz {a b:Nat} (h:a<=b):a-b=0:=Nat.sub_eq_zero_of_le h
theorem tn {a:Int} (h:0<=a):(a.toNat:Int)=a:=Int.toNat_of_nonneg h
theorem tz {a:Int} (h:a<=0):a.toNat=0:=Int.toNat_of_nonpos h
theorem nt (a b:Nat):a<=b∨b<=a:=Nat.le_total a b
theorem it (a b:Int):a<=b∨b<=a:=Int.le_total a b
theorem o0(a b c:Nat):a+4*c<900->b<=c->a+4*b<900:=zc [a,c,b] (.h (.lt (.a v0 (.t 4 v1)) (.k 900)) (.w (4) (.le v2 v1) .z)) (.lt (.a v0 (.t 4 v2)) (.k 900)) rfl
theorem o1(a b c:Nat):a+30*c<9000->b<=c->a+30*b<9000:=zc [a,c,b] (.h (.lt (.a v0 (.t 30 v1)) (.k 9000)) (.w (30) (.le v2 v1) .z)) (.lt (.a v0 (.t 30 v2)) (.k 9000)) rfl
theorem o2(a b:Nat):a+4*(b+1)<900->a+1+4*b<900:=zc [a,b] (.h (.lt (.a v0 (.t 4 (.a v1 k1))) (.k 900)) .z) (.lt (.a (.a v0 k1) (.t 4 v1)) (.k 900)) rfl
theorem o3(a b:Nat):a+30*(b+1)<9000->a+3+30*b<9000:=zc [a,b] (.h (.lt (.a v0 (.t 30 (.a v1 k1))) (.k 9000)) .z) (.lt (.a (.a v0 k3) (.t 30 v1)) (.k 9000)) rfl
theorem o4(a b:Nat):a+4*(b+1)<900->a+4*b<900:=zc [a,b] (.h (.lt (.a v0 (.t 4 (.a v1 k1))) (.k 900)) .z) (.lt (.a v0 (.t 4 v1)) (.k 900)) rfl
theorem o5(a b:Nat):a+30*(b+1)<9000->a+1+30*b<9000:=zc [a,b] (.h (.lt (.a v0 (.t 30 (.a v1 k1))) (.k 9000)) .z) (.lt (.a (.a v0 k1) (.t 30 v1)) (.k 9000)) rfl
theorem o6(a b:Nat):a+4*b<900->a<1000:=zc [a,b] (.h (.lt (.a v0 (.t 4 v1)) (.k 900)) .z) (.lt v0 (.k 1000)) rfl
theorem o7(a b:Nat):a<=b+1->a+1<=b+1+1:=zc [a,b] (.h (.le v0 (.a v1 k1)) .z) (.le (.a v0 k1) (.a (.a v1 k1) k1)) rfl
theorem o8(a b:Nat):a<=b->b<90->a+1<=1000:=zc [a,b] (.h (.le v0 v1) (.h (.lt v1 (.k 90)) .z)) (.le (.a v0 k1) (.k 1000)) rfl
theorem o9(a b c d:Nat):a<=c+1->b=d+1->c<=d->a<=b:=zc [a,c,b,d] (.h (.le v0 (.a v1 k1)) (.m (.eq v2 (.a v3 k1)) (.h (.le v1 v3) .z))) (.le v0 v2) rfl
theorem o10(a b:Nat):a+30*b<9000->a+64<9900:=zc [a,b] (.h (.lt (.a v0 (.t 30 v1)) (.k 9000)) .z) (.lt (.a v0 (.k 64)) (.k 9900)) rfl
theorem o11(a:Nat):a<=100000->(a:Int)<2^63:=fun h0=>zd [(a:Int)] (.h (.le v0 (.k 100000)) .z) (.lt v0 (.k 9223372036854775808)) rfl (cl h0)
theorem o12(a:Int)(b:Nat):a.toNat<b->b<=100000->a<2^63:=fun h0 h1=>(it 0 a).elim (fun z1=>(zd [(((a:Int).toNat:Nat):Int),(b:Int),a] (.h (.lt v0 v1) (.h (.le v1 (.k 100000)) (.m (.eq v0 v2) .z))) (.lt v2 (.k 9223372036854775808)) rfl (ct h0) (cl h1) (tn z1))) (fun z2=>(zd [a] (.h (.le v0 k0) .z) (.lt v0 (.k 9223372036854775808)) rfl z2))
theorem o13(a:Int)(b:Nat):-(b:Int)<=a->b<=100000->-2^63<=a:=fun h0 h1=>zd [(b:Int),a] (.h (.le (.g v0) v1) (.h (.le v0 (.k 100000)) .z)) (.le (.g (.k 9223372036854775808)) v1) rfl h0 (cl h1)
theorem o14(a:Nat):a<=100000->a<=16777216:=zc [a] (.h (.le v0 (.k 100000)) .z) (.le v0 (.k 16777216)) rfl
theorem o15(a b:Nat):a-b<=a:=(nt b a).elim (fun z1=>(zc [(a-b),b,a] (.h (.eq (.a v0 v1) v2) .z) (.le v0 v2) rfl (sn z1))) (fun z2=>(zc [(a-b),a] (.h (.eq v0 k0) .z) (.le v0 v1) rfl (sz z2)))
theorem o16(a b c:Nat):a<=b->b<=c->c<=100000->a<=100000:=zc [a,b,c] (.h (.le v0 v1) (.h (.le v1 v2) (.h (.le v2 (.k 100000)) .z))) (.le v0 (.k 100000)) rfl
theorem o17(a b:Nat):a+b<=100000->a+b<=16777216:=zc [a,b] (.h (.le (.a v0 v1) (.k 100000)) .z) (.le (.a v0 v1) (.k 16777216)) rfl
theorem o18(a b:Nat):a+b<=1000->a+b<=16777216:=zc [a,b] (.h (.le (.a v0 v1) (.k 1000)) .z) (.le (.a v0 v1) (.k 16777216)) rfl
theorem o19(a:Nat):a<100000->a<=16777216:=zc [a] (.h (.lt v0 (.k 100000)) .z) (.le v0 (.k 16777216)) rfl
theorem o20(a b:Nat):a<=b+1->b<100000->a<=100000:=zc [a,b] (.h (.le v0 (.a v1 k1)) (.h (.lt v1 (.k 100000)) .z)) (.le v0 (.k 100000)) rfl
theorem o21(a:Int)(b:Nat):a<(b:Int)->b<=100000->a<2^63:=fun h0 h1=>zd [a,(b:Int)] (.h (.lt v0 v1) (.h (.le v1 (.k 100000)) .z)) (.lt v0 (.k 9223372036854775808)) rfl h0 (cl h1)
theorem o22(a:Nat):a<100000->a<=99999:=zc [a] (.h (.lt v0 (.k 100000)) .z) (.le v0 (.k 99999)) rfl
theorem o23(a b:Nat):a=b+1->a=b+1:=fun h0=>h0
theorem o24(a:Nat):a<=99999->a+1<=16777216:=zc [a] (.h (.le v0 (.k 99999)) .z) (.le (.a v0 k1) (.k 16777216)) rfl
theorem o25(a:Nat):a<=99999->a<=100000:=zc [a] (.h (.le v0 (.k 99999)) .z) (.le v0 (.k 100000)) rfl
theorem o26(a b:Nat):a=b->a=b:=fun h0=>h0
theorem o27(a b c:Nat):a<c->b=c->a<b:=zc [a,c,b] (.h (.lt v0 v1) (.m (.eq v2 v1) .z)) (.lt v0 v2) rfl
theorem o28(a b:Nat):a<b->b<=100000->(a:Int)<2^63-1:=fun h0 h1=>zd [(a:Int),(b:Int)] (.h (.lt v0 v1) (.h (.le v1 (.k 100000)) .z)) (.lt v0 (.s (.k 9223372036854775808) k1)) rfl (ct h0) (cl h1)
theorem o29(a b c:Nat):a<c->c=b->a<b:=zc [a,c,b] (.h (.lt v0 v1) (.h (.eq v1 v2) .z)) (.lt v0 v2) rfl
theorem o30(a:Int):0<=a->a<=100000->-9223372036854775808<=a/\a<9223372036854775808:=fun h0 h1=>⟨(zd [a] (.h (.le k0 v0) .z) (.le (.g (.k 9223372036854775808)) v0) rfl h0),(zd [a] (.h (.le v0 (.k 100000)) .z) (.lt v0 (.k 9223372036854775808)) rfl h1)⟩
theorem o31(a:Int):a<=100000->a<=1152921504606846975:=zd [a] (.h (.le v0 (.k 100000)) .z) (.le v0 (.k 1152921504606846975)) rfl
theorem o32(a:Int):a<=100000->a<=16777216:=zd [a] (.h (.le v0 (.k 100000)) .z) (.le v0 (.k 16777216)) rfl
theorem o33(a:Int):a<=100000->a<=100000:=fun h0=>h0
theorem o34(a:Nat):a<=1000->a<=16777216:=zc [a] (.h (.le v0 (.k 1000)) .z) (.le v0 (.k 16777216)) rfl
theorem o35(a:Nat):0<((a+1:Nat):Int):=zd [(a:Int)] (.h (.le k0 v0) .z) (.lt k0 (.a v0 k1)) rfl (cn _)
theorem o36(a:Nat):((a+1:Nat):Int)-1=(a:Int):=zd [(a:Int)] .z (.eq (.s (.a v0 k1) k1) v0) rfl
theorem o37(a:Int):-1000000<=a->-2^63<=a:=zd [a] (.h (.le (.g (.k 1000000)) v0) .z) (.le (.g (.k 9223372036854775808)) v0) rfl
theorem o38(a:Int):a<=1000000->a<2^63:=zd [a] (.h (.le v0 (.k 1000000)) .z) (.lt v0 (.k 9223372036854775808)) rfl
theorem o39(a b:Int):b<a->-2^63<=a-b:=zd [b,a] (.h (.lt v0 v1) .z) (.le (.g (.k 9223372036854775808)) (.s v1 v0)) rfl
theorem o40:((-2^63:Int):Int)<=0:=zd [] .z (.le (.g (.k 9223372036854775808)) k0) rfl
theorem o41(a b:Int):-1000000<=b->a<=1000000->a-b<2^63:=zd [b,a] (.h (.le (.g (.k 1000000)) v0) (.h (.le v1 (.k 1000000)) .z)) (.lt (.s v1 v0) (.k 9223372036854775808)) rfl
theorem o42:((0:Int):Int)<2^63:=zd [] .z (.lt k0 (.k 9223372036854775808)) rfl
theorem o43(a:Int):-1000000<=a->a<=1000000->-2^63<=a+(1-1)/\a+(1-1)<2^63:=fun h0 h1=>⟨(zd [a] (.h (.le (.g (.k 1000000)) v0) .z) (.le (.g (.k 9223372036854775808)) (.a v0 (.s k1 k1))) rfl h0),(zd [a] (.h (.le v0 (.k 1000000)) .z) (.lt (.a v0 (.s k1 k1)) (.k 9223372036854775808)) rfl h1)⟩
theorem o44(a:Int):-1000000<=a->a<=1000000->-2^63<=a+((-1)+1)/\a+((-1)+1)<2^63:=fun h0 h1=>⟨(zd [a] (.h (.le (.g (.k 1000000)) v0) .z) (.le (.g (.k 9223372036854775808)) (.a v0 (.a (.g k1) k1))) rfl h0),(zd [a] (.h (.le v0 (.k 1000000)) .z) (.lt (.a v0 (.a (.g k1) k1)) (.k 9223372036854775808)) rfl h1)⟩
theorem o45(a:Nat):a<=a+1:=zc [a] .z (.le v0 (.a v0 k1)) rfl
theorem o46:((-1000000:Int):Int)<=0:=zd [] .z (.le (.g (.k 1000000)) k0) rfl
theorem o47:((0:Int):Int)<=1000000:=zd [] .z (.le k0 (.k 1000000)) rfl
theorem o48(a:Int):0<a->a-0=((a.toNat:Nat):Int):=fun h0=>(it 0 a).elim (fun z1=>(zd [(((a:Int).toNat:Nat):Int),a] (.m (.eq v0 v1) .z) (.eq (.s v1 k0) v0) rfl (tn z1))) (fun z2=>((zd [a] (.h (.lt k0 v0) (.h (.le v0 k0) .z)) .no rfl h0 z2).elim))
theorem o49(a:Int):¬0<a->0=((a.toNat:Nat):Int):=fun h0=>(it 0 a).elim (fun z1=>(Int.le_antisymm (zd [(((a:Int).toNat:Nat):Int)] (.h (.le k0 v0) .z) (.le k0 v0) rfl (cn _)) (zd [a,(((a:Int).toNat:Nat):Int)] (.h (.nlt k0 v0) (.h (.eq v1 v0) .z)) (.le v1 k0) rfl h0 (tn z1)))) (fun z2=>(zd [(((a:Int).toNat:Nat):Int)] (.m (.eq v0 k0) .z) (.eq k0 v0) rfl (ce (tz z2))))
theorem o50(a b:Int):b<a->a-b=(((a-b:Int).toNat:Nat):Int):=fun h0=>(it 0 (a-b)).elim (fun z1=>(zd [((((a-b):Int).toNat:Nat):Int),a,b] (.m (.eq v0 (.s v1 v2)) .z) (.eq (.s v1 v2) v0) rfl (tn z1))) (fun z2=>((zd [b,a] (.h (.lt v0 v1) (.h (.le (.s v1 v0) k0) .z)) .no rfl h0 z2).elim))
theorem o51(a b:Int):¬b<a->0=(((a-b:Int).toNat:Nat):Int):=fun h0=>(it 0 (a-b)).elim (fun z1=>(Int.le_antisymm (zd [((((a-b):Int).toNat:Nat):Int)] (.h (.le k0 v0) .z) (.le k0 v0) rfl (cn _)) (zd [b,a,((((a-b):Int).toNat:Nat):Int)] (.h (.nlt v0 v1) (.h (.eq v2 (.s v1 v0)) .z)) (.le v2 k0) rfl h0 (tn z1)))) (fun z2=>(zd [((((a-b):Int).toNat:Nat):Int)] (.m (.eq v0 k0) .z) (.eq k0 v0) rfl (ce (tz z2))))
theorem o52:((-1:Int).natAbs:Nat)<1073741824:=(it 0 (-1)).elim (fun z1=>(Int.ofNat_lt.mp (zd [((((-1):Int).natAbs:Nat):Int)] (.h (.eq v0 (.g k1)) .z) (.lt v0 (.k 1073741824)) rfl (Int.natAbs_of_nonneg z1)))) (fun z2=>(Int.ofNat_lt.mp (zd [((((-1):Int).natAbs:Nat):Int)] (.h (.eq v0 (.g (.g k1))) .z) (.lt v0 (.k 1073741824)) rfl (Int.ofNat_natAbs_of_nonpos z2))))
theorem o54:(0:Nat)<=1:=zc [] .z (.le k0 k1) rfl
theorem o60(a b c:Nat):a+4*(c+1)<900->b<=3->a+b+4*c<900:=zc [a,c,b] (.h (.lt (.a v0 (.t 4 (.a v1 k1))) (.k 900)) (.h (.le v2 k3) .z)) (.lt (.a (.a v0 v2) (.t 4 v1)) (.k 900)) rfl
theorem o61(a b c:Nat):a+30*(c+1)<9000->b<=10->a+b+30*c<9000:=zc [a,c,b] (.h (.lt (.a v0 (.t 30 (.a v1 k1))) (.k 9000)) (.h (.le v2 (.k 10)) .z)) (.lt (.a (.a v0 v2) (.t 30 v1)) (.k 9000)) rfl
theorem o62(a:Nat):a<=15->a<=100000:=zc [a] (.h (.le v0 (.k 15)) .z) (.le v0 (.k 100000)) rfl
theorem o63(a:Int)(b:Nat):a+((b+0:Nat):Int)*1=a+(b:Int):=congrArg (a+·) (Int.mul_one _)
theorem o64(a:Int)(b c:Nat):a+((b+(c+1):Nat):Int)*1=a+((b+1+c:Nat):Int)*1:=congrArg (fun x:Nat=>a+(x:Int)*1) (Nat.add_right_comm b c 1)
theorem o65(a:Int)(b:Nat):a+((b+1:Nat):Int)=a+(b:Int)+1:=zd [a,(b:Int)] .z (.eq (.a v0 (.a v1 k1)) (.a (.a v0 v1) k1)) rfl
theorem o66(a b:Int):(a-b:Int).toNat<=100000->(a-b:Int).toNat<=2^24:=zc [((a-b):Int).toNat] (.h (.le v0 (.k 100000)) .z) (.le v0 (.k 16777216)) rfl
theorem o67(a:Int)(b:Nat):0<=a->a<0->(max 0 (min (a+(b:Int)) (b:Int)):Int).toNat=a.toNat:=fun h0 h1=>(zd [a] (.h (.le k0 v0) (.h (.lt v0 k0) .z)) .no rfl h0 h1).elim
theorem o68(a:Int)(b:Nat):a<=(b:Int)->(max 0 (min a (b:Int)):Int).toNat=a.toNat:=fun h=>by
 rw [Int.min_eq_left h]
 rcases Int.le_total 0 a with h|h
 ·rw [Int.max_eq_right h]
 ·rw [Int.max_eq_left h,Int.toNat_of_nonpos h];rfl
theorem o69(a b:Nat):a<=b->b<=100000->a<=100000:=zc [a,b] (.h (.le v0 v1) (.h (.le v1 (.k 100000)) .z)) (.le v0 (.k 100000)) rfl
theorem o70(a b c:Nat):b+(c+1)<=100000->a<=b->a<100000:=zc [b,c,a] (.h (.le (.a v0 (.a v1 k1)) (.k 100000)) (.h (.le v2 v0) .z)) (.lt v2 (.k 100000)) rfl
theorem o71(a b:Nat):a<b+5->a<b+6:=zc [a,b] (.h (.lt v0 (.a v1 (.k 5))) .z) (.lt v0 (.a v1 (.k 6))) rfl
theorem o72(a b:Nat):a+4<b∨b<a∨b=a+2->b=a+4->False:=fun h0 h1=>h0.elim (fun z1=>(zc [b,a] (.h (.eq v0 (.a v1 (.k 4))) (.h (.lt (.a v1 (.k 4)) v0) .z)) .no rfl h1 z1)) (fun z2=>(z2.elim (fun z3=>(zc [b,a] (.m (.eq v0 (.a v1 (.k 4))) (.h (.lt v0 v1) .z)) .no rfl h1 z3)) (fun z4=>(zc [b,a] (.m (.eq v0 (.a v1 (.k 4))) (.h (.eq v0 (.a v1 k2)) .z)) .no rfl h1 z4))))
theorem o73(a b:Nat):a+4<b∨b<a∨b=a+2->b=a+3->False:=fun h0 h1=>h0.elim (fun z1=>(zc [b,a] (.h (.eq v0 (.a v1 k3)) (.h (.lt (.a v1 (.k 4)) v0) .z)) .no rfl h1 z1)) (fun z2=>(z2.elim (fun z3=>(zc [b,a] (.m (.eq v0 (.a v1 k3)) (.h (.lt v0 v1) .z)) .no rfl h1 z3)) (fun z4=>(zc [b,a] (.m (.eq v0 (.a v1 k3)) (.h (.eq v0 (.a v1 k2)) .z)) .no rfl h1 z4))))
theorem o74(a b:Nat):a+4<b∨b<a∨b=a+2->b=a->False:=fun h0 h1=>h0.elim (fun z1=>(zc [b,a] (.h (.eq v0 v1) (.h (.lt (.a v1 (.k 4)) v0) .z)) .no rfl h1 z1)) (fun z2=>(z2.elim (fun z3=>(zc [b,a] (.m (.eq v0 v1) (.h (.lt v0 v1) .z)) .no rfl h1 z3)) (fun z4=>(zc [b,a] (.h (.eq v0 v1) (.m (.eq v0 (.a v1 k2)) .z)) .no rfl h1 z4))))
theorem o75(a b:Nat):a+4<b∨b<a∨b=a+2->b=a+1->False:=fun h0 h1=>h0.elim (fun z1=>(zc [b,a] (.h (.eq v0 (.a v1 k1)) (.h (.lt (.a v1 (.k 4)) v0) .z)) .no rfl h1 z1)) (fun z2=>(z2.elim (fun z3=>(zc [b,a] (.m (.eq v0 (.a v1 k1)) (.h (.lt v0 v1) .z)) .no rfl h1 z3)) (fun z4=>(zc [b,a] (.h (.eq v0 (.a v1 k1)) (.m (.eq v0 (.a v1 k2)) .z)) .no rfl h1 z4))))
theorem o76(a:Nat):a+4<a+6:=zc [a] .z (.lt (.a v0 (.k 4)) (.a v0 (.k 6))) rfl
theorem o77(a b:Nat):a+6<b->a+4<b:=zc [a,b] (.h (.lt (.a v0 (.k 6)) v1) .z) (.lt (.a v0 (.k 4)) v1) rfl
theorem o78(a b c:Nat):b<c->¬a+b=a+c:=fun h0=>fun z1=>(zc [b,c,a] (.h (.lt v0 v1) (.m (.eq (.a v2 v0) (.a v2 v1)) .z)) .no rfl h0 z1)
theorem o79(a b:Nat):b<a->a-(b+1)+1<a-b+1:=fun h0=>(nt (b+1) a).elim (fun z1=>((nt b a).elim (fun z3=>(zc [(a-(b+1)),b,a,(a-b)] (.h (.eq (.a v0 (.a v1 k1)) v2) (.m (.eq (.a v3 v1) v2) .z)) (.lt (.a v0 k1) (.a v3 k1)) rfl (sn z1) (sn z3))) (fun z4=>(zc [(a-(b+1)),b,a,(a-b)] (.h (.eq (.a v0 (.a v1 k1)) v2) (.h (.le v2 v1) .z)) (.lt (.a v0 k1) (.a v3 k1)) rfl (sn z1) z4)))) (fun z2=>((nt b a).elim (fun z5=>(zc [b,a,(a-(b+1)),(a-b)] (.h (.lt v0 v1) (.h (.eq v2 k0) (.m (.eq (.a v3 v0) v1) .z))) (.lt (.a v2 k1) (.a v3 k1)) rfl h0 (sz z2) (sn z5))) (fun z6=>(zc [b,a,(a-(b+1)),(a-b)] (.h (.lt v0 v1) (.h (.eq v2 k0) (.h (.le v1 v0) .z))) (.lt (.a v2 k1) (.a v3 k1)) rfl h0 (sz z2) z6))))
theorem o80(a b:Nat):a<b->¬a=b+6:=fun h0=>fun z1=>(zc [a,b] (.h (.lt v0 v1) (.m (.eq v0 (.a v1 (.k 6))) .z)) .no rfl h0 z1)
theorem o81(a b:Nat):a<b->¬a=b+5:=fun h0=>fun z1=>(zc [a,b] (.h (.lt v0 v1) (.m (.eq v0 (.a v1 (.k 5))) .z)) .no rfl h0 z1)
theorem o82(a:Nat):¬a+5=a+6:=fun z1=>(zc [a] (.m (.eq (.a v0 (.k 5)) (.a v0 (.k 6))) .z) .no rfl z1)
theorem o83(a:Nat):a+4<a+5:=zc [a] .z (.lt (.a v0 (.k 4)) (.a v0 (.k 5))) rfl
theorem o84(a b:Nat):b+6<a->¬a=b+6:=fun h0=>fun z1=>(zc [b,a] (.h (.lt (.a v0 (.k 6)) v1) (.h (.eq v1 (.a v0 (.k 6))) .z)) .no rfl h0 z1)
theorem o85(a b c d:Nat):a=b->b<=c->c<=d->d<=1000->a<=1000:=zc [a,b,c,d] (.h (.eq v0 v1) (.h (.le v1 v2) (.h (.le v2 v3) (.h (.le v3 (.k 1000)) .z)))) (.le v0 (.k 1000)) rfl
theorem o86(a:Nat):¬a+6=a+5:=fun z1=>(zc [a] (.h (.eq (.a v0 (.k 6)) (.a v0 (.k 5))) .z) .no rfl z1)
theorem o87(a b:Nat):a+6<b->a+5<b:=zc [a,b] (.h (.lt (.a v0 (.k 6)) v1) .z) (.lt (.a v0 (.k 5)) v1) rfl
theorem o88(a b:Nat):b+6<a->¬a=b+5:=fun h0=>fun z1=>(zc [b,a] (.h (.lt (.a v0 (.k 6)) v1) (.h (.eq v1 (.a v0 (.k 5))) .z)) .no rfl h0 z1)
theorem o89(a b:Nat):¬b<a->a<=b:=zc [b,a] (.h (.nlt v0 v1) .z) (.le v1 v0) rfl
theorem o90(a b c:Nat):a=c->c<=b->a<=b:=zc [a,c,b] (.h (.eq v0 v1) (.h (.le v1 v2) .z)) (.le v0 v2) rfl
theorem o91(a b c d:Nat):min c d<=b->a=d->¬c<=b->a<=b:=fun h0 h1 h2=>(nt c d).elim (fun z1=>((zc [(min c d),b,c] (.h (.le v0 v1) (.h (.nle v2 v1) (.m (.eq v0 v2) .z))) .no rfl h0 h2 (Nat.min_eq_left z1)).elim)) (fun z2=>(zc [(min c d),b,a,d] (.h (.le v0 v1) (.h (.eq v2 v3) (.m (.eq v0 v3) .z))) (.le v2 v1) rfl h0 h1 (Nat.min_eq_right z2)))
theorem o92(a b:Nat):a+4<b∨b<a->b=a+4->False:=fun h0 h1=>h0.elim (fun z1=>(zc [b,a] (.h (.eq v0 (.a v1 (.k 4))) (.h (.lt (.a v1 (.k 4)) v0) .z)) .no rfl h1 z1)) (fun z2=>(zc [b,a] (.m (.eq v0 (.a v1 (.k 4))) (.h (.lt v0 v1) .z)) .no rfl h1 z2))
theorem o93(a b:Nat):a+4<b∨b<a->b=a+3->False:=fun h0 h1=>h0.elim (fun z1=>(zc [b,a] (.h (.eq v0 (.a v1 k3)) (.h (.lt (.a v1 (.k 4)) v0) .z)) .no rfl h1 z1)) (fun z2=>(zc [b,a] (.m (.eq v0 (.a v1 k3)) (.h (.lt v0 v1) .z)) .no rfl h1 z2))
theorem o94(a b:Nat):a+4<b∨b<a->b=a->False:=fun h0 h1=>h0.elim (fun z1=>(zc [b,a] (.h (.eq v0 v1) (.h (.lt (.a v1 (.k 4)) v0) .z)) .no rfl h1 z1)) (fun z2=>(zc [b,a] (.m (.eq v0 v1) (.h (.lt v0 v1) .z)) .no rfl h1 z2))
theorem o95(a b:Nat):a+4<b∨b<a->b=a+1->False:=fun h0 h1=>h0.elim (fun z1=>(zc [b,a] (.h (.eq v0 (.a v1 k1)) (.h (.lt (.a v1 (.k 4)) v0) .z)) .no rfl h1 z1)) (fun z2=>(zc [b,a] (.m (.eq v0 (.a v1 k1)) (.h (.lt v0 v1) .z)) .no rfl h1 z2))
theorem o96(a b c:Nat):a<=b->b<=c->c<=1000->a<=100000:=zc [a,b,c] (.h (.le v0 v1) (.h (.le v1 v2) (.h (.le v2 (.k 1000)) .z))) (.le v0 (.k 100000)) rfl
theorem o97(a b:Nat):a-b=0->a<=b:=fun h0=>(nt b a).elim (fun z1=>(zc [(a-b),b,a] (.h (.eq v0 k0) (.m (.eq (.a v0 v1) v2) .z)) (.le v2 v1) rfl h0 (sn z1))) (fun z2=>z2)
theorem o98(a b c:Nat):b-a=c+1->a<b:=fun h0=>(nt a b).elim (fun z1=>(zc [(b-a),c,a,b] (.m (.eq v0 (.a v1 k1)) (.h (.eq (.a v0 v2) v3) .z)) (.lt v2 v3) rfl h0 (sn z1))) (fun z2=>((zc [(b-a),c] (.m (.eq v0 (.a v1 k1)) (.h (.eq v0 k0) .z)) .no rfl h0 (sz z2)).elim))
theorem o99(a b c:Nat):a-b=c+1->a-(b+1)=c:=fun h0=>(nt (b+1) a).elim (fun z1=>((nt b a).elim (fun z3=>(zc [(a-b),c,(a-(b+1)),b,a] (.h (.eq v0 (.a v1 k1)) (.h (.eq (.a v2 (.a v3 k1)) v4) (.m (.eq (.a v0 v3) v4) .z))) (.eq v2 v1) rfl h0 (sn z1) (sn z3))) (fun z4=>((zc [(a-b),c] (.m (.eq v0 (.a v1 k1)) (.h (.eq v0 k0) .z)) .no rfl h0 (sz z4)).elim)))) (fun z2=>((nt b a).elim (fun z5=>(Nat.le_antisymm (zc [(a-(b+1)),c] (.h (.eq v0 k0) .z) (.le v0 v1) rfl (sz z2)) (zc [(a-b),c,a,b,(a-(b+1))] (.m (.eq v0 (.a v1 k1)) (.h (.le v2 (.a v3 k1)) (.h (.eq (.a v0 v3) v2) .z))) (.le v1 v4) rfl h0 z2 (sn z5)))) (fun z6=>((zc [(a-b),c] (.m (.eq v0 (.a v1 k1)) (.h (.eq v0 k0) .z)) .no rfl h0 (sz z6)).elim))))
theorem o100(a:Nat):a<=1000->a+1<=16777216+1:=zc [a] (.h (.le v0 (.k 1000)) .z) (.le (.a v0 k1) (.a (.k 16777216) k1)) rfl
theorem o101(a b:Nat):a<=b->b<=1000->a<=100000:=zc [a,b] (.h (.le v0 v1) (.h (.le v1 (.k 1000)) .z)) (.le v0 (.k 100000)) rfl
theorem o102(a:Nat)(p0:Prop):p0/\a<30->a<30:=fun h0=>h0.2
theorem o103(a:Nat):0<a+1:=zc [a] .z (.lt k0 (.a v0 k1)) rfl
theorem o104(a b:Nat):(a<b↔a+1<b+1):=⟨fun z1=>(zc [a,b] (.h (.lt v0 v1) .z) (.lt (.a v0 k1) (.a v1 k1)) rfl z1),fun z2=>(zc [a,b] (.h (.lt (.a v0 k1) (.a v1 k1)) .z) (.lt v0 v1) rfl z2)⟩
theorem o105(a b c:Int):c<=b->¬c<=a->a<b:=zd [c,b,a] (.h (.le v0 v1) (.h (.nle v0 v2) .z)) (.lt v2 v1) rfl
theorem o106(a b:Nat):a=b->b=0->a=0:=zc [a,b] (.h (.eq v0 v1) (.h (.eq v1 k0) .z)) (.eq v0 k0) rfl
theorem o107(a b:Int):(0:Nat)<0->a<=b:=fun h0=>(zc [] (.h (.lt k0 k0) .z) .no rfl h0).elim
theorem o108(a:Nat):(a<0↔a+1<0):=⟨fun z1=>(zc [a] (.w (2) (.lt v0 k0) .z) (.lt (.a v0 k1) k0) rfl z1),fun z2=>(zc [a] (.h (.lt (.a v0 k1) k0) .z) (.lt v0 k0) rfl z2)⟩
theorem o109(a b:Int):b<=a->¬a<b:=zd [b,a] (.h (.le v0 v1) .z) (.nlt v1 v0) rfl
theorem o110(a b c:Int):c<a->¬c<=b->¬a<=b:=zd [c,a,b] (.h (.lt v0 v1) (.h (.nle v0 v2) .z)) (.nle v1 v2) rfl
theorem o111(a b:Int):¬b<=a->a<b:=zd [b,a] (.h (.nle v0 v1) .z) (.lt v1 v0) rfl
theorem o112(a:Nat):0<a->a-1<a:=fun h0=>(nt 1 a).elim (fun z1=>(zc [(a-1),a] (.h (.eq (.a v0 k1) v1) .z) (.lt v0 v1) rfl (sn z1))) (fun z2=>(zc [a,(a-1)] (.h (.lt k0 v0) (.h (.eq v1 k0) .z)) (.lt v1 v0) rfl h0 (sz z2)))
theorem o113(a b:Nat):0<a->a<=b->a-1<b:=fun h0 h1=>(nt 1 a).elim (fun z1=>(zc [a,b,(a-1)] (.h (.le v0 v1) (.h (.eq (.a v2 k1) v0) .z)) (.lt v2 v1) rfl h1 (sn z1))) (fun z2=>(zc [a,b,(a-1)] (.h (.lt k0 v0) (.h (.le v0 v1) (.h (.eq v2 k0) .z))) (.lt v2 v1) rfl h0 h1 (sz z2)))
theorem o114(a b:Int):a<=b->a<b+1:=zd [a,b] (.h (.le v0 v1) .z) (.lt v0 (.a v1 k1)) rfl
theorem o115(a b c:Int):c+1<b->a<=c->a<b:=zd [c,b,a] (.h (.lt (.a v0 k1) v1) (.h (.le v2 v0) .z)) (.lt v2 v1) rfl
theorem o116(a b:Int):a+1<b->a+1<b:=fun h0=>h0
theorem o117(a b:Int):a<=b-1->a<b:=zd [a,b] (.h (.le v0 (.s v1 k1)) .z) (.lt v0 v1) rfl
theorem o118(a b c:Int):a<=c-1->c<=b->a<b+1:=zd [a,c,b] (.h (.le v0 (.s v1 k1)) (.h (.le v1 v2) .z)) (.lt v0 (.a v2 k1)) rfl
theorem o119(a b c d:Int):c+1<b->a<=d-1->d<=c->a<b:=zd [c,b,a,d] (.h (.lt (.a v0 k1) v1) (.h (.le v2 (.s v3 k1)) (.h (.le v3 v0) .z))) (.lt v2 v1) rfl
theorem o120(a:Int):1<=a->1<=a:=fun h0=>h0
theorem o121(a b:Int):a<b->a<b:=fun h0=>h0
theorem o122(a b c:Int):a<c->c<=b->a<b+1:=zd [a,c,b] (.h (.lt v0 v1) (.h (.le v1 v2) .z)) (.lt v0 (.a v2 k1)) rfl
theorem o123(a b c d:Int):c+1<b->a<d->d<=c->a<b:=zd [c,b,a,d] (.h (.lt (.a v0 k1) v1) (.h (.lt v2 v3) (.h (.le v3 v0) .z))) (.lt v2 v1) rfl
theorem o124(a b c:Int):b<c->a<=b->a<=c-1:=fun h0=>fun z1=>(zd [b,c,a] (.h (.lt v0 v1) (.h (.le v2 v0) .z)) (.le v2 (.s v1 k1)) rfl h0 z1)
theorem o125(a b c:Int):b<a->¬(a<=b/\b<=c):=fun h0=>fun z1=>(zd [b,a] (.h (.lt v0 v1) (.h (.le v1 v0) .z)) .no rfl h0 z1.1)
theorem o126(a b c:Int):¬c<b->a<=b-1->a<=c:=fun h0=>fun z1=>(zd [c,b,a] (.h (.nlt v0 v1) (.h (.le v2 (.s v1 k1)) .z)) (.le v2 v0) rfl h0 z1)
theorem o127(a b:Int):¬b<a->a<=b:=zd [b,a] (.h (.nlt v0 v1) .z) (.le v1 v0) rfl
theorem o128(a b:Int):b<=a->¬a+1<=b:=zd [b,a] (.h (.le v0 v1) .z) (.nle (.a v1 k1) v0) rfl
theorem o129(a b c:Int):¬b<=c->¬(a<=b/\b<=c):=fun h0=>fun z1=>(zd [b,c] (.h (.nle v0 v1) (.h (.le v0 v1) .z)) .no rfl h0 z1.2)
theorem o130(a b:Int):¬b<=a->a+1<=b:=zd [b,a] (.h (.nle v0 v1) .z) (.le (.a v1 k1) v0) rfl
theorem o131(a b:Int):b<=a+1->¬a+1<b:=zd [b,a] (.h (.le v0 (.a v1 k1)) .z) (.nlt (.a v1 k1) v0) rfl
theorem o132(a b c:Int):a<=c+1->¬b<=c->a<=b:=zd [a,c,b] (.h (.le v0 (.a v1 k1)) (.h (.nle v2 v1) .z)) (.le v0 v2) rfl
theorem o133(a b:Int):¬b<=a+1->a+1<b:=zd [b,a] (.h (.nle v0 (.a v1 k1)) .z) (.lt (.a v1 k1) v0) rfl
theorem o134(a b c:Int):c<b->¬c<=a+1->a+1<b:=zd [c,b,a] (.h (.lt v0 v1) (.h (.nle v0 (.a v2 k1)) .z)) (.lt (.a v2 k1) v1) rfl
theorem o135(a b:Int):1<=b->b<=a->0<=a+1:=zd [b,a] (.h (.le k1 v0) (.h (.le v0 v1) .z)) (.le k0 (.a v1 k1)) rfl
theorem o136(a:Int)(b:Nat):-1<=a/\a<(b:Int)->-1<=a/\a<((b+1:Nat):Int):=fun h0=>⟨h0.1,(zd [a,(b:Int)] (.h (.lt v0 v1) .z) (.lt v0 (.a v1 k1)) rfl h0.2)⟩
theorem o137(a:Nat):-1<=(a:Int)/\(a:Int)<((a+1:Nat):Int):=⟨(zd [(a:Int)] (.h (.le k0 v0) .z) (.le (.g k1) v0) rfl (cn _)),(zd [(a:Int)] .z (.lt v0 (.a v0 k1)) rfl)⟩
theorem o138(a:Int):-1<a->a<(0:Int)->False:=zd [a] (.h (.lt (.g k1) v0) (.h (.lt v0 k0) .z)) .no rfl
theorem o139(a:Int)(b:Nat):a<((b+1:Nat):Int)->¬a=(b:Int)->a<(b:Int):=fun h0 h1=>(Int.lt_or_gt_of_ne h1).elim (fun z1=>z1) (fun z2=>(zd [a,(b:Int)] (.w (2) (.lt v0 (.a v1 k1)) (.h (.lt v1 v0) .z)) (.lt v0 v1) rfl h0 z2))
theorem o140(a:Nat)(b:Int):(a:Int)<b->b<((a+1:Nat):Int)->False:=zd [(a:Int),b] (.h (.lt v0 v1) (.h (.lt v1 (.a v0 k1)) .z)) .no rfl
theorem o141(a:Int):-1<=a->a<0->a=-1:=fun h0 h1=>Int.le_antisymm (zd [a] (.h (.lt v0 k0) .z) (.le v0 (.g k1)) rfl h1) h0
theorem o142(a:Nat):-1<((a+1:Nat):Int)-1:=zd [(a:Int)] (.h (.le k0 v0) .z) (.lt (.g k1) (.s (.a v0 k1) k1)) rfl (cn _)
theorem o143(a:Nat):¬a=0->-1<(a:Int)-1:=fun h0=>(Nat.lt_or_gt_of_ne h0).elim (fun z1=>(zd [(a:Int)] (.w (2) (.le k0 v0) (.h (.lt v0 k0) .z)) (.lt (.g k1) (.s v0 k1)) rfl (cn _) (ct z1))) (fun z2=>(zd [(a:Int)] (.h (.lt k0 v0) .z) (.lt (.g k1) (.s v0 k1)) rfl (ct z2)))
theorem o144:((-1:Int):Int)<0:=zd [] .z (.lt (.g k1) k0) rfl
theorem o145(a:Nat):-1<(a:Int)-1->0<(a:Int):=zd [(a:Int)] (.h (.lt (.g k1) (.s v0 k1)) .z) (.lt k0 v0) rfl
theorem o146(a:Int)(b:Nat):a<(b:Int)->a<((b+1:Nat):Int)-1:=zd [a,(b:Int)] (.h (.lt v0 v1) .z) (.lt v0 (.s (.a v1 k1) k1)) rfl
theorem o147(a:Int):a<a+1:=zd [a] .z (.lt v0 (.a v0 k1)) rfl
theorem o148(a:Int)(b:Nat):a<(b:Int)-1->a+1<(b:Int):=zd [a,(b:Int)] (.h (.lt v0 (.s v1 k1)) .z) (.lt (.a v0 k1) v1) rfl
theorem o149(a:Int):¬a<0->0<=a+1:=zd [a] (.h (.nlt v0 k0) .z) (.le k0 (.a v0 k1)) rfl
theorem o150(a:Nat)(b:Int):b<(a:Int)->¬b<(a:Int)-1->(a:Int)=b+1:=fun h0 h1=>Int.le_antisymm (zd [b,(a:Int)] (.h (.nlt v0 (.s v1 k1)) .z) (.le v1 (.a v0 k1)) rfl h1) (zd [b,(a:Int)] (.h (.lt v0 v1) .z) (.le (.a v0 k1) v1) rfl h0)
theorem o151(a:Int):¬a<0->0<=a:=zd [a] (.h (.nlt v0 k0) .z) (.le k0 v0) rfl
theorem o152(a:Nat)(p0:Prop):¬((a:Int)<((a+1:Nat):Int)-1/\((a:Int)<0∨p0)):=fun z1=>(zd [(a:Int)] (.h (.lt v0 (.s (.a v0 k1) k1)) .z) .no rfl z1.1)
theorem o153(a:Int)(b:Nat)(p0:Prop):-1<=a->a<(b:Int)-1/\(a<0∨p0)->-1<=a+1/\a+1<(b:Int):=fun h0 h1=>⟨(zd [a] (.h (.le (.g k1) v0) .z) (.le (.g k1) (.a v0 k1)) rfl h0),(zd [a,(b:Int)] (.h (.lt v0 (.s v1 k1)) .z) (.lt (.a v0 k1) v1) rfl h1.1)⟩
theorem o154(a:Int)(b:Nat):-1<=a->a<(b:Int)->-1<=a/\a<(b:Int):=fun h0 h1=>⟨h0,h1⟩
theorem o155(a:Int):-1<=a->0<=a+1:=zd [a] (.h (.le (.g k1) v0) .z) (.le k0 (.a v0 k1)) rfl
theorem o156(a:Int)(b:Nat):0<b->a<0->a<(b:Int)-1:=fun h0 h1=>zd [(b:Int),a] (.h (.lt k0 v0) (.h (.lt v1 k0) .z)) (.lt v1 (.s v0 k1)) rfl (ct h0) h1
theorem o157(a:Int):a<(0:Int)->¬0<=a:=zd [a] (.h (.lt v0 k0) .z) (.nle k0 v0) rfl
theorem o158(a b:Nat):a+1+b=a+b+1:=zc [a,b] .z (.eq (.a (.a v0 k1) v1) (.a (.a v0 v1) k1)) rfl
theorem o159(a:Int)(b:Nat)(c:Int):-1<=a/\a<((c.toNat:Nat):Int)->c<((b+1:Nat):Int)->a<(b:Int):=fun h0 h1=>(it 0 c).elim (fun z1=>(zd [c,(b:Int),a,(((c:Int).toNat:Nat):Int)] (.h (.lt v0 (.a v1 k1)) (.h (.lt v2 v3) (.h (.eq v3 v0) .z))) (.lt v2 v1) rfl h1 h0.2 (tn z1))) (fun z2=>(zd [a,(((c:Int).toNat:Nat):Int),(b:Int)] (.h (.le k0 v2) (.h (.lt v0 v1) (.h (.eq v1 k0) .z))) (.lt v0 v2) rfl (cn _) h0.2 (ce (tz z2))))
theorem o160(a b:Nat):a<b->a<b+1:=zc [a,b] (.h (.lt v0 v1) .z) (.lt v0 (.a v1 k1)) rfl
theorem o161(a:Nat):a<=0->a=0:=fun h0=>Nat.le_antisymm h0 (zc [a] .z (.le k0 v0) rfl)
theorem o162(a:Nat):0<=(a:Int):=zd [(a:Int)] (.h (.le k0 v0) .z) (.le k0 v0) rfl (cn _)
theorem o163(a b c:Nat):a<c->c<=b+1->a<=b:=zc [a,c,b] (.h (.lt v0 v1) (.h (.le v1 (.a v2 k1)) .z)) (.le v0 v2) rfl
theorem o164(a b:Nat):a<b->0<=(a:Int)/\(a:Int)<(b:Int):=fun h0=>⟨(zd [(a:Int)] (.h (.le k0 v0) .z) (.le k0 v0) rfl (cn _)),(zd [(a:Int),(b:Int)] (.h (.lt v0 v1) .z) (.lt v0 v1) rfl (ct h0))⟩
theorem o165(a b:Nat):b<=a->¬(0<=(a:Int)/\(a:Int)<(b:Int)):=fun h0=>fun z1=>(zd [(b:Int),(a:Int)] (.h (.le v0 v1) (.h (.lt v1 v0) .z)) .no rfl (cl h0) z1.2)
theorem o166(a b:Nat):a<=b+0->a<=b:=zc [a,b] (.h (.le v0 (.a v1 k0)) .z) (.le v0 v1) rfl
theorem o167(a b c:Nat):a<=b+(c+1)->a<=b+1+c:=zc [a,b,c] (.h (.le v0 (.a v1 (.a v2 k1))) .z) (.le v0 (.a (.a v1 k1) v2)) rfl
theorem o168(a b:Nat):a<b->a<=b+2:=zc [a,b] (.h (.lt v0 v1) .z) (.le v0 (.a v1 k2)) rfl
theorem o169(a b:Nat):a<=b+1+(a+2):=zc [a,b] .z (.le v0 (.a (.a v1 k1) (.a v0 k2))) rfl
theorem o170(a b:Nat):0<a->a<b->¬((a:Int)<=0∨(b:Int)<=(a:Int)):=fun h0 h1=>fun z1=>(z1.elim (fun z2=>(zd [(a:Int)] (.h (.lt k0 v0) (.h (.le v0 k0) .z)) .no rfl (ct h0) z2)) (fun z3=>(zd [(a:Int),(b:Int)] (.h (.lt v0 v1) (.h (.le v1 v0) .z)) .no rfl (ct h1) z3)))
theorem o171(a:Nat):((0:Int):Int)<=0∨(a:Int)<=0:=.inl (zd [] .z (.le k0 k0) rfl)
theorem o172(a b:Nat):b<=a->(a:Int)<=0∨(b:Int)<=(a:Int):=fun h0=>.inr (zd [(b:Int),(a:Int)] (.h (.le v0 v1) .z) (.le v0 v1) rfl (cl h0))
theorem o173(a b:Nat):a+1<b->a<b:=zc [a,b] (.h (.lt (.a v0 k1) v1) .z) (.lt v0 v1) rfl
theorem o174(a b:Nat):a+1<=b->a<=b:=zc [a,b] (.h (.le (.a v0 k1) v1) .z) (.le v0 v1) rfl
theorem o175(a b:Nat):a+1<=b->a<b:=zc [a,b] (.h (.le (.a v0 k1) v1) .z) (.lt v0 v1) rfl
theorem o176(a b:Nat):min (a+1) (a+(b+1))=a+1:=(nt (a+1) (a+(b+1))).elim (fun z1=>(Nat.min_eq_left z1)) (fun z2=>(Nat.le_antisymm (zc [a,b,(min (a+1) (a+(b+1)))] (.h (.le (.a v0 (.a v1 k1)) (.a v0 k1)) (.h (.eq v2 (.a v0 (.a v1 k1))) .z)) (.le v2 (.a v0 k1)) rfl z2 (Nat.min_eq_right z2)) (zc [(min (a+1) (a+(b+1))),a,b] (.m (.eq v0 (.a v1 (.a v2 k1))) .z) (.le (.a v1 k1) v0) rfl (Nat.min_eq_right z2))))
theorem o177(a b c:Nat):¬c<a+(b+2)->a+(b+2)<=c:=zc [c,a,b] (.h (.nlt v0 (.a v1 (.a v2 k2))) .z) (.le (.a v1 (.a v2 k2)) v0) rfl
theorem o178(a b c:Nat):¬c<a+(b+2)->a+1+(a+(b+1)-(a+1)+1)<=c:=fun h0=>(nt (a+1) (a+(b+1))).elim (fun z1=>(zc [c,a,b,((a+(b+1))-(a+1))] (.h (.nlt v0 (.a v1 (.a v2 k2))) (.h (.eq (.a v3 (.a v1 k1)) (.a v1 (.a v2 k1))) .z)) (.le (.a (.a v1 k1) (.a v3 k1)) v0) rfl h0 (sn z1))) (fun z2=>(zc [c,a,b,((a+(b+1))-(a+1))] (.h (.nlt v0 (.a v1 (.a v2 k2))) (.h (.eq v3 k0) .z)) (.le (.a (.a v1 k1) (.a v3 k1)) v0) rfl h0 (sz z2)))
theorem o179(a b c:Nat):a<b+1->a<b+(c+1):=zc [a,b,c] (.h (.lt v0 (.a v1 k1)) .z) (.lt v0 (.a v1 (.a v2 k1))) rfl
theorem o180(a b:Nat):(0<a+(b+1+1)↔0<a+(b+1)):=⟨fun z1=>(zc [a,b] .z (.lt k0 (.a v0 (.a v1 k1))) rfl),fun z2=>(zc [a,b] .z (.lt k0 (.a v0 (.a (.a v1 k1) k1))) rfl)⟩
theorem o181(a b c d e:Nat):a+1<d+(e+2)->b=d->c=e->a+1<b+(c+1+1):=zc [a,d,e,b,c] (.h (.lt (.a v0 k1) (.a v1 (.a v2 k2))) (.m (.eq v3 v1) (.m (.eq v4 v2) .z))) (.lt (.a v0 k1) (.a v3 (.a (.a v4 k1) k1))) rfl
theorem o182(a b c d:Nat):a+1<d+1->b=d->a+1<b+(c+1):=zc [a,d,b,c] (.h (.lt (.a v0 k1) (.a v1 k1)) (.m (.eq v2 v1) .z)) (.lt (.a v0 k1) (.a v2 (.a v3 k1))) rfl
theorem o183(a b:Nat):a+1<b+1->¬a+1<b->a+1=b:=fun h0 h1=>Nat.le_antisymm (zc [a,b] (.h (.lt (.a v0 k1) (.a v1 k1)) .z) (.le (.a v0 k1) v1) rfl h0) (zc [a,b] (.h (.nlt (.a v0 k1) v1) .z) (.le v1 (.a v0 k1)) rfl h1)
theorem o184(a b:Nat):¬b+1<a->a<=b+1:=zc [b,a] (.h (.nlt (.a v0 k1) v1) .z) (.le v1 (.a v0 k1)) rfl
theorem o185(a b c d e:Nat):a+1<d+(e+2)->b=d->c=e->a<b+(c+1+1):=zc [a,d,e,b,c] (.h (.lt (.a v0 k1) (.a v1 (.a v2 k2))) (.m (.eq v3 v1) (.m (.eq v4 v2) .z))) (.lt v0 (.a v3 (.a (.a v4 k1) k1))) rfl
theorem o186(a b c d e:Nat):a+1<d+(e+2)->b=d->c=e->a<b+(c+1):=zc [a,d,e,b,c] (.h (.lt (.a v0 k1) (.a v1 (.a v2 k2))) (.m (.eq v3 v1) (.m (.eq v4 v2) .z))) (.lt v0 (.a v3 (.a v4 k1))) rfl
theorem o187(a b c:Nat):a+1<c+1->b=c->a<b:=zc [a,c,b] (.h (.lt (.a v0 k1) (.a v1 k1)) (.m (.eq v2 v1) .z)) (.lt v0 v2) rfl
theorem o188(a b c d e:Nat):a+1<d+(e+2)->b=d->c=e->a+1<=b+(c+1+1):=zc [a,d,e,b,c] (.h (.lt (.a v0 k1) (.a v1 (.a v2 k2))) (.m (.eq v3 v1) (.m (.eq v4 v2) .z))) (.le (.a v0 k1) (.a v3 (.a (.a v4 k1) k1))) rfl
theorem o189(a b c d e:Nat):a+1<d+(e+2)->b=d->c=e->a+1<=b+(c+1):=zc [a,d,e,b,c] (.h (.lt (.a v0 k1) (.a v1 (.a v2 k2))) (.m (.eq v3 v1) (.m (.eq v4 v2) .z))) (.le (.a v0 k1) (.a v3 (.a v4 k1))) rfl
theorem o190(a b c:Nat):a+1<c+1->b=c->a+1<=b:=zc [a,c,b] (.h (.lt (.a v0 k1) (.a v1 k1)) (.m (.eq v2 v1) .z)) (.le (.a v0 k1) v2) rfl
theorem o191(a b c d:Nat):a+1<d->b=d->a+1<b+(c+1):=zc [a,d,b,c] (.h (.lt (.a v0 k1) v1) (.m (.eq v2 v1) .z)) (.lt (.a v0 k1) (.a v2 (.a v3 k1))) rfl
theorem o192(a b c:Nat):a+1<c->b=c->a+1<b:=zc [a,c,b] (.h (.lt (.a v0 k1) v1) (.m (.eq v2 v1) .z)) (.lt (.a v0 k1) v2) rfl
theorem o193(a b c:Nat):a+1<c->b=c->a+1+1<=b:=zc [a,c,b] (.h (.lt (.a v0 k1) v1) (.m (.eq v2 v1) .z)) (.le (.a (.a v0 k1) k1) v2) rfl
theorem o194(a b c:Nat):a+1<c+1->b=c->¬a+1<c->a+1=b:=fun h0 h1 h2=>Nat.le_antisymm (zc [a,c,b] (.h (.lt (.a v0 k1) (.a v1 k1)) (.m (.eq v2 v1) .z)) (.le (.a v0 k1) v2) rfl h0 h1) (zc [b,c,a] (.h (.eq v0 v1) (.h (.nlt (.a v2 k1) v1) .z)) (.le v0 (.a v2 k1)) rfl h1 h2)
theorem o195(a b:Nat):¬b<a+1->a+1<=b:=zc [b,a] (.h (.nlt v0 (.a v1 k1)) .z) (.le (.a v1 k1) v0) rfl
theorem o196(a b c:Nat):b=a->a+1<b+(c+1+1):=zc [b,a,c] (.m (.eq v0 v1) .z) (.lt (.a v1 k1) (.a v0 (.a (.a v2 k1) k1))) rfl
theorem o197(a b:Nat):a=b->a<=b+1:=zc [a,b] (.h (.eq v0 v1) .z) (.le v0 (.a v1 k1)) rfl
theorem o198(a b c:Nat):b=a->a<b+(c+1+1):=zc [b,a,c] (.m (.eq v0 v1) .z) (.lt v1 (.a v0 (.a (.a v2 k1) k1))) rfl
theorem o199(a b:Nat):a=b->a<=b:=zc [a,b] (.h (.eq v0 v1) .z) (.le v0 v1) rfl
theorem o200(a b c:Nat):b=a->a+1<=b+(c+1+1):=zc [b,a,c] (.m (.eq v0 v1) .z) (.le (.a v1 k1) (.a v0 (.a (.a v2 k1) k1))) rfl
theorem o201(a b:Nat):¬a<b+1->¬a=b+1->a=b+1+(a-b-2+1):=fun h0 h1=>(nt b a).elim (fun z1=>((nt 2 (a-b)).elim (fun z3=>(zc [(a-b),b,a,((a-b)-2)] (.m (.eq (.a v0 v1) v2) (.m (.eq (.a v3 k2) v0) .z)) (.eq v2 (.a (.a v1 k1) (.a v3 k1))) rfl (sn z1) (sn z3))) (fun z4=>((Nat.lt_or_gt_of_ne h1).elim (fun z5=>((zc [a,b] (.h (.nlt v0 (.a v1 k1)) (.h (.lt v0 (.a v1 k1)) .z)) .no rfl h0 z5).elim)) (fun z6=>(Nat.le_antisymm (zc [(a-b),b,a,((a-b)-2)] (.m (.eq (.a v0 v1) v2) (.h (.le v0 k2) .z)) (.le v2 (.a (.a v1 k1) (.a v3 k1))) rfl (sn z1) z4) (zc [((a-b)-2),b,a] (.h (.eq v0 k0) (.h (.lt (.a v1 k1) v2) .z)) (.le (.a (.a v1 k1) (.a v0 k1)) v2) rfl (sz z4) z6))))))) (fun z2=>((zc [a,b] (.h (.nlt v0 (.a v1 k1)) (.h (.le v0 v1) .z)) .no rfl h0 z2).elim))
theorem o202(a b:Nat):a+1+(b+1)-(a+1)=b+1:=(nt (a+1) ((a+1)+(b+1))).elim (fun z1=>(zc [(((a+1)+(b+1))-(a+1)),a,b] (.h (.eq (.a v0 (.a v1 k1)) (.a (.a v1 k1) (.a v2 k1))) .z) (.eq v0 (.a v2 k1)) rfl (sn z1))) (fun z2=>((zc [a,b] (.h (.le (.a (.a v0 k1) (.a v1 k1)) (.a v0 k1)) .z) .no rfl z2).elim))
theorem o203(a b c:Nat):a+1+(b+1)<a+(c+2)->a+1+b<a+(c+1):=zc [a,b,c] (.h (.lt (.a (.a v0 k1) (.a v1 k1)) (.a v0 (.a v2 k2))) .z) (.lt (.a (.a v0 k1) v1) (.a v0 (.a v2 k1))) rfl
theorem o204(a b:Nat):0<a+1+(b+1):=zc [a,b] .z (.lt k0 (.a (.a v0 k1) (.a v1 k1))) rfl
theorem o205(a b c d e:Nat):a+1+(b+1)<a+(e+2)->c=a->d=e->a+1+(b+1)<c+(d+1+1):=zc [a,b,e,c,d] (.h (.lt (.a (.a v0 k1) (.a v1 k1)) (.a v0 (.a v2 k2))) (.m (.eq v3 v0) (.m (.eq v4 v2) .z))) (.lt (.a (.a v0 k1) (.a v1 k1)) (.a v3 (.a (.a v4 k1) k1))) rfl
theorem o206(a b:Nat):0<a+1+b:=zc [a,b] .z (.lt k0 (.a (.a v0 k1) v1)) rfl
theorem o207(a b c d e:Nat):a+1+(b+1)<a+(e+2)->c=a->d=e->a+1+b<c+(d+1):=zc [a,b,e,c,d] (.h (.lt (.a (.a v0 k1) (.a v1 k1)) (.a v0 (.a v2 k2))) (.m (.eq v3 v0) (.m (.eq v4 v2) .z))) (.lt (.a (.a v0 k1) v1) (.a v3 (.a v4 k1))) rfl
theorem o208(a b:Nat):a<=a+1+(b+1):=zc [a,b] .z (.le v0 (.a (.a v0 k1) (.a v1 k1))) rfl
theorem o209(a b:Nat):a<=a+1+b:=zc [a,b] .z (.le v0 (.a (.a v0 k1) v1)) rfl
theorem o210(a b:Nat):a+1+(b+1)-a=b+1+1:=(nt a ((a+1)+(b+1))).elim (fun z1=>(zc [(((a+1)+(b+1))-a),a,b] (.h (.eq (.a v0 v1) (.a (.a v1 k1) (.a v2 k1))) .z) (.eq v0 (.a (.a v2 k1) k1)) rfl (sn z1))) (fun z2=>((zc [a,b] (.h (.le (.a (.a v0 k1) (.a v1 k1)) v0) .z) .no rfl z2).elim))
theorem o211(a b:Nat):a+1+b-a=b+1:=(nt a ((a+1)+b)).elim (fun z1=>(zc [(((a+1)+b)-a),a,b] (.h (.eq (.a v0 v1) (.a (.a v1 k1) v2)) .z) (.eq v0 (.a v2 k1)) rfl (sn z1))) (fun z2=>((zc [a,b] (.h (.le (.a (.a v0 k1) v1) v0) .z) .no rfl z2).elim))
theorem o212(a b c d e:Nat):b<e+1->c=a->d=e->a+1+b<c+(d+1+1):=zc [b,e,c,a,d] (.h (.lt v0 (.a v1 k1)) (.m (.eq v2 v3) (.m (.eq v4 v1) .z))) (.lt (.a (.a v3 k1) v0) (.a v2 (.a (.a v4 k1) k1))) rfl
theorem o213(a b c d e:Nat):b<e+1->c=a->d=e->a+b<c+(d+1):=zc [b,e,c,a,d] (.h (.lt v0 (.a v1 k1)) (.m (.eq v2 v3) (.m (.eq v4 v1) .z))) (.lt (.a v3 v0) (.a v2 (.a v4 k1))) rfl
theorem o214(a b c:Nat):a=b->a<=b+1+c:=zc [a,b,c] (.h (.eq v0 v1) .z) (.le v0 (.a (.a v1 k1) v2)) rfl
theorem o215(a b c:Nat):a=b->a<=b+c:=zc [a,b,c] (.h (.eq v0 v1) .z) (.le v0 (.a v1 v2)) rfl
theorem o216(a b c:Nat):c=a->a+1+b-c=b+1:=fun h0=>(nt c ((a+1)+b)).elim (fun z1=>(zc [c,a,(((a+1)+b)-c),b] (.m (.eq v0 v1) (.h (.eq (.a v2 v0) (.a (.a v1 k1) v3)) .z)) (.eq v2 (.a v3 k1)) rfl h0 (sn z1))) (fun z2=>((zc [c,a,b] (.h (.eq v0 v1) (.h (.le (.a (.a v1 k1) v2) v0) .z)) .no rfl h0 z2).elim))
theorem o217(a b c:Nat):c=a->a+b-c=b:=fun h0=>(nt c (a+b)).elim (fun z1=>(zc [c,a,((a+b)-c),b] (.m (.eq v0 v1) (.h (.eq (.a v2 v0) (.a v1 v3)) .z)) (.eq v2 v3) rfl h0 (sn z1))) (fun z2=>(Nat.le_antisymm (zc [((a+b)-c),b] (.h (.eq v0 k0) .z) (.le v0 v1) rfl (sz z2)) (zc [c,a,b,((a+b)-c)] (.h (.eq v0 v1) (.h (.le (.a v1 v2) v0) .z)) (.le v2 v3) rfl h0 z2)))
theorem o218(a b c d e:Nat):a=c->b=e->¬d<e+1->a+(b+1+1)<=c+1+d:=zc [a,c,b,e,d] (.h (.eq v0 v1) (.h (.eq v2 v3) (.h (.nlt v4 (.a v3 k1)) .z))) (.le (.a v0 (.a (.a v2 k1) k1)) (.a (.a v1 k1) v4)) rfl
theorem o219(a b c d e:Nat):a=c->b=e->¬d<e+1->a+(b+1)<=c+d:=zc [a,c,b,e,d] (.h (.eq v0 v1) (.h (.eq v2 v3) (.h (.nlt v4 (.a v3 k1)) .z))) (.le (.a v0 (.a v2 k1)) (.a v1 v4)) rfl
theorem o220(a b:Nat):a+(b+1)=a+1+b:=zc [a,b] .z (.eq (.a v0 (.a v1 k1)) (.a (.a v0 k1) v1)) rfl
theorem o221(a b:Nat):((a+1+(b+1):Nat):Int)-1=((a+1+b:Nat):Int):=zd [(a:Int),(b:Int)] .z (.eq (.s (.a (.a v0 k1) (.a v1 k1)) k1) (.a (.a v0 k1) v1)) rfl
theorem o222(a b:Nat):((a+1+b:Nat):Int)-1=((a+b:Nat):Int):=zd [(a:Int),(b:Int)] .z (.eq (.s (.a (.a v0 k1) v1) k1) (.a v0 v1)) rfl
theorem o223(a b:Nat):a+1+(b+1)-a=b+2:=(nt a ((a+1)+(b+1))).elim (fun z1=>(zc [(((a+1)+(b+1))-a),a,b] (.h (.eq (.a v0 v1) (.a (.a v1 k1) (.a v2 k1))) .z) (.eq v0 (.a v2 k2)) rfl (sn z1))) (fun z2=>((zc [a,b] (.h (.le (.a (.a v0 k1) (.a v1 k1)) v0) .z) .no rfl z2).elim))
theorem o224(a b c:Nat):c=a->a+1+(b+1)+1=c+(b+3):=zc [c,a,b] (.m (.eq v0 v1) .z) (.eq (.a (.a (.a v1 k1) (.a v2 k1)) k1) (.a v0 (.a v2 k3))) rfl
theorem o225(a b c:Nat):c=a->a+1+b+1=c+(b+2):=zc [c,a,b] (.m (.eq v0 v1) .z) (.eq (.a (.a (.a v1 k1) v2) k1) (.a v0 (.a v2 k2))) rfl
theorem o226(a b:Nat):a<=a+(b+3):=zc [a,b] .z (.le v0 (.a v0 (.a v1 k3))) rfl
theorem o227(a b:Nat):a<=a+(b+2):=zc [a,b] .z (.le v0 (.a v0 (.a v1 k2))) rfl
theorem o228(a b c d e:Nat):a+1+(b+1)<a+(e+2)->c=a->d=e->a+1+(b+1)<=c+(d+1+1):=zc [a,b,e,c,d] (.h (.lt (.a (.a v0 k1) (.a v1 k1)) (.a v0 (.a v2 k2))) (.m (.eq v3 v0) (.m (.eq v4 v2) .z))) (.le (.a (.a v0 k1) (.a v1 k1)) (.a v3 (.a (.a v4 k1) k1))) rfl
theorem o229(a b c d e:Nat):a+1+(b+1)<a+(e+2)->c=a->d=e->a+1+b<=c+(d+1):=zc [a,b,e,c,d] (.h (.lt (.a (.a v0 k1) (.a v1 k1)) (.a v0 (.a v2 k2))) (.m (.eq v3 v0) (.m (.eq v4 v2) .z))) (.le (.a (.a v0 k1) v1) (.a v3 (.a v4 k1))) rfl
theorem o230(a b:Nat):b=a->a<=b:=zc [b,a] (.m (.eq v0 v1) .z) (.le v1 v0) rfl
theorem o231(a:Nat):a<=11->a<12:=zc [a] (.h (.le v0 (.k 11)) .z) (.lt v0 (.k 12)) rfl
theorem o232(a b:Nat):b<=a->a+1-b=a-b+1:=fun h0=>(nt b (a+1)).elim (fun z1=>((nt b a).elim (fun z3=>(zc [((a+1)-b),b,a,(a-b)] (.h (.eq (.a v0 v1) (.a v2 k1)) (.m (.eq (.a v3 v1) v2) .z)) (.eq v0 (.a v3 k1)) rfl (sn z1) (sn z3))) (fun z4=>(Nat.le_antisymm (zc [((a+1)-b),b,a,(a-b)] (.h (.eq (.a v0 v1) (.a v2 k1)) (.h (.le v2 v1) .z)) (.le v0 (.a v3 k1)) rfl (sn z1) z4) (zc [b,a,((a+1)-b),(a-b)] (.h (.le v0 v1) (.m (.eq (.a v2 v0) (.a v1 k1)) (.h (.eq v3 k0) .z))) (.le (.a v3 k1) v2) rfl h0 (sn z1) (sz z4)))))) (fun z2=>((zc [b,a] (.h (.le v0 v1) (.h (.le (.a v1 k1) v0) .z)) .no rfl h0 z2).elim))
theorem o233(a b c:Nat):a<c->b<=a->a-b<c-b:=fun h0 h1=>(nt b a).elim (fun z1=>((nt b c).elim (fun z3=>(zc [a,c,(a-b),b,(c-b)] (.h (.lt v0 v1) (.h (.eq (.a v2 v3) v0) (.m (.eq (.a v4 v3) v1) .z))) (.lt v2 v4) rfl h0 (sn z1) (sn z3))) (fun z4=>(zc [a,c,(a-b),b,(c-b)] (.h (.lt v0 v1) (.h (.eq (.a v2 v3) v0) (.h (.le v1 v3) .z))) (.lt v2 v4) rfl h0 (sn z1) z4)))) (fun z2=>((nt b c).elim (fun z5=>(zc [a,c,b,(a-b),(c-b)] (.h (.lt v0 v1) (.h (.le v2 v0) (.h (.eq v3 k0) (.m (.eq (.a v4 v2) v1) .z)))) (.lt v3 v4) rfl h0 h1 (sz z2) (sn z5))) (fun z6=>(zc [a,c,b,(a-b),(c-b)] (.h (.lt v0 v1) (.h (.le v2 v0) (.h (.eq v3 k0) (.h (.le v1 v2) .z)))) (.lt v3 v4) rfl h0 h1 (sz z2) z6))))
theorem o234(a b:Nat):a<=b->a+(b-a)=b:=fun h0=>(nt a b).elim (fun z1=>(zc [(b-a),a,b] (.h (.eq (.a v0 v1) v2) .z) (.eq (.a v1 v0) v2) rfl (sn z1))) (fun z2=>(Nat.le_antisymm (zc [a,b,(b-a)] (.h (.le v0 v1) (.h (.eq v2 k0) .z)) (.le (.a v0 v2) v1) rfl h0 (sz z2)) (zc [b,a,(b-a)] (.h (.le v0 v1) .z) (.le v0 (.a v1 v2)) rfl z2)))
theorem o235(a b:Nat):a<b->a+1<=b:=zc [a,b] (.h (.lt v0 v1) .z) (.le (.a v0 k1) v1) rfl
theorem o236(a:Nat):a+1-a=1:=(nt a (a+1)).elim (fun z1=>(zc [((a+1)-a),a] (.h (.eq (.a v0 v1) (.a v1 k1)) .z) (.eq v0 k1) rfl (sn z1))) (fun z2=>((zc [a] (.h (.le (.a v0 k1) v0) .z) .no rfl z2).elim))
theorem o237(a b:Nat):a<=b->a<=b+1:=zc [a,b] (.h (.le v0 v1) .z) (.le v0 (.a v1 k1)) rfl
theorem o238(a b:Nat):a<b->a<b:=fun h0=>h0
theorem o239(a b:Nat):a+1+b=a+(b+1):=zc [a,b] .z (.eq (.a (.a v0 k1) v1) (.a v0 (.a v1 k1))) rfl
theorem o240(a b:Nat):0<b->a=b->0<a:=zc [b,a] (.h (.lt k0 v0) (.m (.eq v1 v0) .z)) (.lt k0 v1) rfl
theorem o241(a b:Nat):b<a->a=b+(a-(b+1)+1):=fun h0=>(nt (b+1) a).elim (fun z1=>(zc [(a-(b+1)),b,a] (.m (.eq (.a v0 (.a v1 k1)) v2) .z) (.eq v2 (.a v1 (.a v0 k1))) rfl (sn z1))) (fun z2=>(Nat.le_antisymm (zc [a,b,(a-(b+1))] (.h (.le v0 (.a v1 k1)) .z) (.le v0 (.a v1 (.a v2 k1))) rfl z2) (zc [b,a,(a-(b+1))] (.h (.lt v0 v1) (.h (.eq v2 k0) .z)) (.le (.a v0 (.a v2 k1)) v1) rfl h0 (sz z2))))
theorem o242(a b:Nat):b+0=a->a<=b:=zc [b,a] (.m (.eq (.a v0 k0) v1) .z) (.le v1 v0) rfl
theorem o243(a b c:Nat):a+(c+1)=b->a<b:=zc [a,c,b] (.h (.eq (.a v0 (.a v1 k1)) v2) .z) (.lt v0 v2) rfl
theorem o244(a b c:Nat):a+(b+1)=c->a+1+b=c:=zc [a,b,c] (.h (.eq (.a v0 (.a v1 k1)) v2) .z) (.eq (.a (.a v0 k1) v1) v2) rfl
theorem o245(a b:Nat):a<b->a+1+(b-(a+1))=b:=fun h0=>(nt (a+1) b).elim (fun z1=>(zc [(b-(a+1)),a,b] (.h (.eq (.a v0 (.a v1 k1)) v2) .z) (.eq (.a (.a v1 k1) v0) v2) rfl (sn z1))) (fun z2=>(Nat.le_antisymm (zc [a,b,(b-(a+1))] (.h (.lt v0 v1) (.h (.eq v2 k0) .z)) (.le (.a (.a v0 k1) v2) v1) rfl h0 (sz z2)) (zc [b,a,(b-(a+1))] (.h (.le v0 (.a v1 k1)) .z) (.le v0 (.a (.a v1 k1) v2)) rfl z2)))
theorem o246(a b:Nat):¬a=0->¬a=b->¬(a=0∨a=b):=fun h0 h1=>fun z1=>(z1.elim (fun z2=>((Nat.lt_or_gt_of_ne h0).elim (fun z4=>(zc [a] (.h (.lt v0 k0) .z) .no rfl z4)) (fun z5=>(zc [a] (.h (.eq v0 k0) (.h (.lt k0 v0) .z)) .no rfl z2 z5)))) (fun z3=>((Nat.lt_or_gt_of_ne h0).elim (fun z6=>(zc [a] (.h (.lt v0 k0) .z) .no rfl z6)) (fun z7=>((Nat.lt_or_gt_of_ne h1).elim (fun z8=>(zc [a,b] (.m (.eq v0 v1) (.h (.lt v0 v1) .z)) .no rfl z3 z8)) (fun z9=>(zc [a,b] (.h (.eq v0 v1) (.h (.lt v1 v0) .z)) .no rfl z3 z9)))))))
theorem o247(a:Nat):¬a=0->0<a:=fun h0=>(Nat.lt_or_gt_of_ne h0).elim (fun z1=>(zc [a] (.h (.lt v0 k0) .z) (.lt k0 v0) rfl z1)) (fun z2=>z2)
theorem o248(a b:Nat):a<=b->¬a=b->a<b:=fun h0 h1=>(Nat.lt_or_gt_of_ne h1).elim (fun z1=>z1) (fun z2=>(zc [a,b] (.w (2) (.le v0 v1) (.h (.lt v1 v0) .z)) (.lt v0 v1) rfl h0 z2))
theorem o249(a b:Nat):a<b+0->b<=a->False:=zc [a,b] (.h (.lt v0 (.a v1 k0)) (.h (.le v1 v0) .z)) .no rfl
theorem o250(a b c:Nat):a<b+(c+1)->a<b+1+c:=zc [a,b,c] (.h (.lt v0 (.a v1 (.a v2 k1))) .z) (.lt v0 (.a (.a v1 k1) v2)) rfl
theorem o251(a b:Nat):a+1-(b+1)=a-b:=(nt (b+1) (a+1)).elim (fun z1=>((nt b a).elim (fun z3=>(zc [((a+1)-(b+1)),b,a,(a-b)] (.h (.eq (.a v0 (.a v1 k1)) (.a v2 k1)) (.m (.eq (.a v3 v1) v2) .z)) (.eq v0 v3) rfl (sn z1) (sn z3))) (fun z4=>(Nat.le_antisymm (zc [((a+1)-(b+1)),b,a,(a-b)] (.h (.eq (.a v0 (.a v1 k1)) (.a v2 k1)) (.h (.le v2 v1) .z)) (.le v0 v3) rfl (sn z1) z4) (zc [(a-b),((a+1)-(b+1))] (.h (.eq v0 k0) .z) (.le v0 v1) rfl (sz z4)))))) (fun z2=>((nt b a).elim (fun z5=>(Nat.le_antisymm (zc [((a+1)-(b+1)),(a-b)] (.h (.eq v0 k0) .z) (.le v0 v1) rfl (sz z2)) (zc [a,b,(a-b),((a+1)-(b+1))] (.h (.le (.a v0 k1) (.a v1 k1)) (.h (.eq (.a v2 v1) v0) .z)) (.le v2 v3) rfl z2 (sn z5)))) (fun z6=>(zc [((a+1)-(b+1)),(a-b)] (.h (.eq v0 k0) (.m (.eq v1 k0) .z)) (.eq v0 v1) rfl (sz z2) (sz z6)))))
theorem o252(a b:Nat):a+(b+1)-(a+1)=b:=(nt (a+1) (a+(b+1))).elim (fun z1=>(zc [((a+(b+1))-(a+1)),a,b] (.h (.eq (.a v0 (.a v1 k1)) (.a v1 (.a v2 k1))) .z) (.eq v0 v2) rfl (sn z1))) (fun z2=>(Nat.le_antisymm (zc [((a+(b+1))-(a+1)),b] (.h (.eq v0 k0) .z) (.le v0 v1) rfl (sz z2)) (zc [a,b,((a+(b+1))-(a+1))] (.h (.le (.a v0 (.a v1 k1)) (.a v0 k1)) .z) (.le v1 v2) rfl z2)))
theorem o253(a b c:Nat):a<c->c<=b->a<=b:=zc [a,c,b] (.h (.lt v0 v1) (.h (.le v1 v2) .z)) (.le v0 v2) rfl
theorem o254(a b:Nat):a<b->a+(b-a)=b:=fun h0=>(nt a b).elim (fun z1=>(zc [(b-a),a,b] (.h (.eq (.a v0 v1) v2) .z) (.eq (.a v1 v0) v2) rfl (sn z1))) (fun z2=>((zc [a,b] (.h (.lt v0 v1) (.h (.le v1 v0) .z)) .no rfl h0 z2).elim))
theorem o255(a b c:Nat):a<=c->min (a-b) (c-b)=a-b:=fun h0=>(nt b a).elim (fun z1=>((nt b c).elim (fun z3=>((nt (a-b) (c-b)).elim (fun z5=>(Nat.min_eq_left z5)) (fun z6=>(Nat.le_antisymm (zc [(c-b),(a-b),(min (a-b) (c-b))] (.h (.le v0 v1) (.h (.eq v2 v0) .z)) (.le v2 v1) rfl z6 (Nat.min_eq_right z6)) (zc [a,c,(a-b),b,(c-b),(min (a-b) (c-b))] (.h (.le v0 v1) (.h (.eq (.a v2 v3) v0) (.m (.eq (.a v4 v3) v1) (.m (.eq v5 v4) .z)))) (.le v2 v5) rfl h0 (sn z1) (sn z3) (Nat.min_eq_right z6)))))) (fun z4=>((nt (a-b) (c-b)).elim (fun z7=>(Nat.min_eq_left z7)) (fun z8=>(Nat.le_antisymm (zc [(c-b),(min (a-b) (c-b)),(a-b)] (.h (.eq v0 k0) (.h (.eq v1 v0) .z)) (.le v1 v2) rfl (sz z4) (Nat.min_eq_right z8)) (zc [a,c,(a-b),b,(min (a-b) (c-b))] (.h (.le v0 v1) (.h (.eq (.a v2 v3) v0) (.h (.le v1 v3) .z))) (.le v2 v4) rfl h0 (sn z1) z4))))))) (fun z2=>((nt b c).elim (fun z9=>((nt (a-b) (c-b)).elim (fun z11=>(Nat.min_eq_left z11)) (fun z12=>(Nat.le_antisymm (zc [(c-b),(a-b),(min (a-b) (c-b))] (.h (.le v0 v1) (.h (.eq v2 v0) .z)) (.le v2 v1) rfl z12 (Nat.min_eq_right z12)) (zc [(a-b),(min (a-b) (c-b))] (.h (.eq v0 k0) .z) (.le v0 v1) rfl (sz z2)))))) (fun z10=>((nt (a-b) (c-b)).elim (fun z13=>(Nat.min_eq_left z13)) (fun z14=>(zc [(a-b),(c-b),(min (a-b) (c-b))] (.m (.eq v0 k0) (.h (.eq v1 k0) (.h (.eq v2 v1) .z))) (.eq v2 v0) rfl (sz z2) (sz z10) (Nat.min_eq_right z14)))))))
theorem o256(a b c:Nat):a<c->c<=b->min a b=a:=fun h0 h1=>(nt a b).elim (fun z1=>(Nat.min_eq_left z1)) (fun z2=>((zc [a,c,b] (.h (.lt v0 v1) (.h (.le v1 v2) (.h (.le v2 v0) .z))) .no rfl h0 h1 z2).elim))
theorem o257(a b:Nat):a<b->a<=b:=zc [a,b] (.h (.lt v0 v1) .z) (.le v0 v1) rfl
theorem o258(a b c:Nat):a=c->c<b->a+(b-c)=b:=fun h0 h1=>(nt c b).elim (fun z1=>(zc [a,c,(b-c),b] (.h (.eq v0 v1) (.h (.eq (.a v2 v1) v3) .z)) (.eq (.a v0 v2) v3) rfl h0 (sn z1))) (fun z2=>((zc [c,b] (.h (.lt v0 v1) (.h (.le v1 v0) .z)) .no rfl h1 z2).elim))
theorem o259(a:Nat):0<a->a=a-1+1:=fun h0=>(nt 1 a).elim (fun z1=>(zc [(a-1),a] (.m (.eq (.a v0 k1) v1) .z) (.eq v1 (.a v0 k1)) rfl (sn z1))) (fun z2=>(Nat.le_antisymm (zc [a,(a-1)] (.h (.le v0 k1) .z) (.le v0 (.a v1 k1)) rfl z2) (zc [a,(a-1)] (.h (.lt k0 v0) (.h (.eq v1 k0) .z)) (.le (.a v1 k1) v0) rfl h0 (sz z2))))
theorem o260(a b:Nat):a<b-1->0<a+1/\a+1<b:=fun h0=>⟨(zc [a] .z (.lt k0 (.a v0 k1)) rfl),((nt 1 b).elim (fun z1=>(zc [a,(b-1),b] (.h (.lt v0 v1) (.h (.eq (.a v1 k1) v2) .z)) (.lt (.a v0 k1) v2) rfl h0 (sn z1))) (fun z2=>(zc [a,(b-1),b] (.w (2) (.lt v0 v1) (.w (2) (.eq v1 k0) .z)) (.lt (.a v0 k1) v2) rfl h0 (sz z2))))⟩
theorem o261(a:Nat):¬0<a->a=0:=fun h0=>Nat.le_antisymm (zc [a] (.h (.nlt k0 v0) .z) (.le v0 k0) rfl h0) (zc [a] .z (.le k0 v0) rfl)
theorem o262(a b:Nat):b<=a->a+1=b+1+(a-b):=fun h0=>(nt b a).elim (fun z1=>(zc [(a-b),b,a] (.m (.eq (.a v0 v1) v2) .z) (.eq (.a v2 k1) (.a (.a v1 k1) v0)) rfl (sn z1))) (fun z2=>(Nat.le_antisymm (zc [a,b,(a-b)] (.h (.le v0 v1) .z) (.le (.a v0 k1) (.a (.a v1 k1) v2)) rfl z2) (zc [b,a,(a-b)] (.h (.le v0 v1) (.h (.eq v2 k0) .z)) (.le (.a (.a v0 k1) v2) (.a v1 k1)) rfl h0 (sz z2))))
theorem o263(a b:Nat):a<b+1->a<=b:=zc [a,b] (.h (.lt v0 (.a v1 k1)) .z) (.le v0 v1) rfl
theorem o264(a b:Nat):b<a->¬a<=b:=zc [b,a] (.h (.lt v0 v1) .z) (.nle v1 v0) rfl
theorem o265(a b:Nat):a<b+1+(a+1):=zc [a,b] .z (.lt v0 (.a (.a v1 k1) (.a v0 k1))) rfl
theorem o266(a:Nat):a-1<=a:=(nt 1 a).elim (fun z1=>(zc [(a-1),a] (.h (.eq (.a v0 k1) v1) .z) (.le v0 v1) rfl (sn z1))) (fun z2=>(zc [(a-1),a] (.h (.eq v0 k0) .z) (.le v0 v1) rfl (sz z2)))
theorem o267(a:Nat):0<a->a-1+1=a:=fun h0=>(nt 1 a).elim (fun z1=>(sn z1)) (fun z2=>(Nat.le_antisymm (zc [a,(a-1)] (.h (.lt k0 v0) (.h (.eq v1 k0) .z)) (.le (.a v1 k1) v0) rfl h0 (sz z2)) (zc [a,(a-1)] (.h (.le v0 k1) .z) (.le v0 (.a v1 k1)) rfl z2)))
theorem o268(a:Nat):0<a->¬a<=a-1:=fun h0=>(nt 1 a).elim (fun z1=>(zc [(a-1),a] (.h (.eq (.a v0 k1) v1) .z) (.nle v1 v0) rfl (sn z1))) (fun z2=>(zc [a,(a-1)] (.h (.lt k0 v0) (.h (.eq v1 k0) .z)) (.nle v0 v1) rfl h0 (sz z2)))
theorem o269(a:Nat)(p0:Prop):¬(a<a/\p0):=fun z1=>(zc [a] (.h (.lt v0 v0) .z) .no rfl z1.1)
theorem o270(a b c:Nat)(p0:Prop):p0/\a<=2->b<=2*c->a+b<=2*(c+1):=fun h0 h1=>zc [b,c,a] (.h (.le v0 (.t 2 v1)) (.h (.le v2 k2) .z)) (.le (.a v2 v0) (.t 2 (.a v1 k1))) rfl h1 h0.2
theorem o271(a b:Nat):a<=2*b->0+1+a<=2*(b+1):=zc [a,b] (.h (.le v0 (.t 2 v1)) .z) (.le (.a (.a k0 k1) v0) (.t 2 (.a v1 k1))) rfl
theorem o272:((2:Int).natAbs:Nat)<1073741824:=(it 0 2).elim (fun z1=>(Int.ofNat_lt.mp (zd [(((2:Int).natAbs:Nat):Int)] (.h (.eq v0 k2) .z) (.lt v0 (.k 1073741824)) rfl (Int.natAbs_of_nonneg z1)))) (fun z2=>(Int.ofNat_lt.mp (zd [(((2:Int).natAbs:Nat):Int)] (.h (.eq v0 (.g k2)) .z) (.lt v0 (.k 1073741824)) rfl (Int.ofNat_natAbs_of_nonpos z2))))
theorem o273(a b:Nat):((a:Int)+(b:Int))/2=(((a+b)/2:Nat):Int):=rfl
theorem o274(a b c d:Nat):(c+d)/2=a->c<d->d<=b->a<b:=fun e h1 h2=>e ▸ Nat.lt_of_lt_of_le (Nat.div_lt_of_lt_mul (Nat.two_mul d ▸ Nat.add_lt_add_right h1 d)) h2
theorem o275(a b c:Nat):(c+a)/2=b->c<a->a-(b+1)<a-c:=fun e h=>Nat.sub_lt_sub_left h (Nat.lt_succ_of_le (e ▸ (Nat.le_div_iff_mul_le (by decide)).mpr (Nat.mul_two c ▸ Nat.add_le_add_left (Nat.le_of_lt h) c)))
theorem o276(a b c:Nat):(b+c)/2=a->b<c->a-b<c-b:=fun e h=>Nat.sub_lt_sub_right (e ▸ (Nat.le_div_iff_mul_le (by decide)).mpr (Nat.mul_two b ▸ Nat.add_le_add_left (Nat.le_of_lt h) b)) (e ▸ Nat.div_lt_of_lt_mul (Nat.two_mul c ▸ Nat.add_lt_add_right h c))
theorem o277(a b c:Nat):a<=b->b<=c->¬a<c->a=b:=fun h0 h1 h2=>Nat.le_antisymm h0 (zc [b,c,a] (.h (.le v0 v1) (.h (.nlt v2 v1) .z)) (.le v0 v2) rfl h1 h2)
theorem o278(a b:Int):a<b->a<=b:=zd [a,b] (.h (.lt v0 v1) .z) (.le v0 v1) rfl
theorem o279(a:Nat):0<a->0<=(a:Int)-1:=fun h0=>zd [(a:Int)] (.h (.lt k0 v0) .z) (.le k0 (.s v0 k1)) rfl (ct h0)
theorem o280(a:Nat):((a:Int)-1:Int).toNat=a-1:=(it 0 ((((a:Nat):Nat):Int)-1)).elim (fun z1=>((nt 1 a).elim (fun z3=>(Int.ofNat_inj.mp (zd [(((((((a:Nat):Nat):Int)-1):Int).toNat:Nat):Int),(a:Int),(((a-1):Nat):Int)] (.h (.eq v0 (.s v1 k1)) (.m (.eq (.a v2 k1) v1) .z)) (.eq v0 v2) rfl (tn z1) (ce (sn z3))))) (fun z4=>(Nat.le_antisymm (Int.ofNat_le.mp (zd [(((((((a:Nat):Nat):Int)-1):Int).toNat:Nat):Int),(a:Int),(((a-1):Nat):Int)] (.h (.le k0 v2) (.h (.eq v0 (.s v1 k1)) (.h (.le v1 k1) .z))) (.le v0 v2) rfl (cn _) (tn z1) (cl z4))) (zc [(a-1),(((((a:Nat):Nat):Int)-1):Int).toNat] (.h (.eq v0 k0) .z) (.le v0 v1) rfl (sz z4)))))) (fun z2=>((nt 1 a).elim (fun z5=>(Nat.le_antisymm (zc [(((((a:Nat):Nat):Int)-1):Int).toNat,(a-1)] (.h (.eq v0 k0) .z) (.le v0 v1) rfl (tz z2)) (Int.ofNat_le.mp (zd [(a:Int),(((a-1):Nat):Int),(((((((a:Nat):Nat):Int)-1):Int).toNat:Nat):Int)] (.h (.le k0 v2) (.h (.le (.s v0 k1) k0) (.h (.eq (.a v1 k1) v0) .z))) (.le v1 v2) rfl (cn _) z2 (ce (sn z5)))))) (fun z6=>(zc [(((((a:Nat):Nat):Int)-1):Int).toNat,(a-1)] (.h (.eq v0 k0) (.m (.eq v1 k0) .z)) (.eq v0 v1) rfl (tz z2) (sz z6)))))
theorem o281(a:Int):1<=a->0<=a-1:=zd [a] (.h (.le k1 v0) .z) (.le k0 (.s v0 k1)) rfl
theorem o282(a b:Int):a<=b->a<=b:=fun h0=>h0
theorem o283(a:Nat):a<=900->a<=1000:=zc [a] (.h (.le v0 (.k 900)) .z) (.le v0 (.k 1000)) rfl
theorem o284(a:Nat):(a:Int)-1+1=(a:Int):=zd [(a:Int)] .z (.eq (.a (.s v0 k1) k1) v0) rfl
theorem o285(a:Int):a<=1000->a<1114111:=zd [a] (.h (.le v0 (.k 1000)) .z) (.lt v0 (.k 1114111)) rfl
theorem o286(a:Nat):0<a->0<a:=fun h0=>h0
theorem o287:((0:Int):Int)<=1:=zd [] .z (.le k0 k1) rfl
theorem o288(a:Nat):1<=a->1<=(a:Int):=fun h0=>zd [(a:Int)] (.h (.le k1 v0) .z) (.le k1 v0) rfl (cl h0)
theorem o289(a b:Nat):a<=b->a<=b:=fun h0=>h0
theorem o290(a b c:Nat):b<=900->c<=2->min a b+c<=90000:=fun h0 h1=>(nt a b).elim (fun z1=>(zc [b,c,a,(min a b)] (.h (.le v0 (.k 900)) (.h (.le v1 k2) (.h (.le v2 v0) (.h (.eq v3 v2) .z)))) (.le (.a v3 v1) (.k 90000)) rfl h0 h1 z1 (Nat.min_eq_left z1))) (fun z2=>(zc [b,c,(min a b)] (.h (.le v0 (.k 900)) (.h (.le v1 k2) (.h (.eq v2 v0) .z))) (.le (.a v2 v1) (.k 90000)) rfl h0 h1 (Nat.min_eq_right z2)))
theorem o291(a b:Nat):a+b<=90000->a+b<=100000:=zc [a,b] (.h (.le (.a v0 v1) (.k 90000)) .z) (.le (.a v0 v1) (.k 100000)) rfl
theorem o292(a b c d:Nat):a+b<=90000->c<=900->a+b+(c-d)<=100000:=fun h0 h1=>(nt d c).elim (fun z1=>(zc [a,b,c,(c-d),d] (.h (.le (.a v0 v1) (.k 90000)) (.h (.le v2 (.k 900)) (.h (.eq (.a v3 v4) v2) .z))) (.le (.a (.a v0 v1) v3) (.k 100000)) rfl h0 h1 (sn z1))) (fun z2=>(zc [a,b,(c-d)] (.h (.le (.a v0 v1) (.k 90000)) (.h (.eq v2 k0) .z)) (.le (.a (.a v0 v1) v2) (.k 100000)) rfl h0 (sz z2)))
theorem o293(a b c d:Nat):a<=d+c->d<=b+1->a<=b+(c+1):=zc [a,d,c,b] (.h (.le v0 (.a v1 v2)) (.h (.le v1 (.a v3 k1)) .z)) (.le v0 (.a v3 (.a v2 k1))) rfl
theorem o294(a b:Nat):a+(b+1)<=1000->a<100000:=zc [a,b] (.h (.le (.a v0 (.a v1 k1)) (.k 1000)) .z) (.lt v0 (.k 100000)) rfl
theorem o295(a b c:Nat):c+(b+1)<=1000->a<=c+1->a+b<=1000:=zc [c,b,a] (.h (.le (.a v0 (.a v1 k1)) (.k 1000)) (.h (.le v2 (.a v0 k1)) .z)) (.le (.a v2 v1) (.k 1000)) rfl
theorem o296(a:Nat):a<=11->a+(0+1+1+1+1+1+1+1+1+1+1+1+1+1)<=1000:=zc [a] (.h (.le v0 (.k 11)) .z) (.le (.a v0 (.a (.a (.a (.a (.a (.a (.a (.a (.a (.a (.a (.a (.a k0 k1) k1) k1) k1) k1) k1) k1) k1) k1) k1) k1) k1) k1)) (.k 1000)) rfl
theorem o297(a:Nat):a<=24->a+(0+1+1+1+1+1+1+1+1+1+1+1+1+1)<=1000:=zc [a] (.h (.le v0 (.k 24)) .z) (.le (.a v0 (.a (.a (.a (.a (.a (.a (.a (.a (.a (.a (.a (.a (.a k0 k1) k1) k1) k1) k1) k1) k1) k1) k1) k1) k1) k1) k1)) (.k 1000)) rfl
theorem o298(a:Nat):a<=37->a+(0+1+1+1+1)<=1000:=zc [a] (.h (.le v0 (.k 37)) .z) (.le (.a v0 (.a (.a (.a (.a k0 k1) k1) k1) k1)) (.k 1000)) rfl
theorem o299(a:Nat):a<=41->a<100000:=zc [a] (.h (.le v0 (.k 41)) .z) (.lt v0 (.k 100000)) rfl
theorem o300(a b:Nat):a<=b->b<=1000->a<=1000:=zc [a,b] (.h (.le v0 v1) (.h (.le v1 (.k 1000)) .z)) (.le v0 (.k 1000)) rfl
theorem o301(a:Nat):a<=50->a<100000:=zc [a] (.h (.le v0 (.k 50)) .z) (.lt v0 (.k 100000)) rfl
theorem o302(a b c:Nat):a+b<=c->a+b<=c+1:=zc [a,b,c] (.h (.le (.a v0 v1) v2) .z) (.le (.a v0 v1) (.a v2 k1)) rfl
theorem o303(a b c:Nat):a+b<=c->a+(b+1)<=c+1:=zc [a,b,c] (.h (.le (.a v0 v1) v2) .z) (.le (.a v0 (.a v1 k1)) (.a v2 k1)) rfl
theorem o304(a b c:Nat):a+b<=c->a+1+b<=c+1:=zc [a,b,c] (.h (.le (.a v0 v1) v2) .z) (.le (.a (.a v0 k1) v1) (.a v2 k1)) rfl
theorem o305(a b c:Int):b<=c->a<=b-1->a<=c+1:=fun h0=>fun z1=>(zd [b,c,a] (.h (.le v0 v1) (.h (.le v2 (.s v0 k1)) .z)) (.le v2 (.a v1 k1)) rfl h0 z1)
theorem o306(a b c d:Nat):a+c<=d->b<=2->a+b+c<=d+2:=zc [a,c,d,b] (.h (.le (.a v0 v1) v2) (.h (.le v3 k2) .z)) (.le (.a (.a v0 v3) v1) (.a v2 k2)) rfl
theorem o307(a b:Nat):a<=b->b<=50->a<=50:=zc [a,b] (.h (.le v0 v1) (.h (.le v1 (.k 50)) .z)) (.le v0 (.k 50)) rfl
theorem o308(a b:Nat):a<=b->b<=500->a<=900:=zc [a,b] (.h (.le v0 v1) (.h (.le v1 (.k 500)) .z)) (.le v0 (.k 900)) rfl
theorem o309(a b c:Nat):a<=c+1->c<=b->a<=b+1:=zc [a,c,b] (.h (.le v0 (.a v1 k1)) (.h (.le v1 v2) .z)) (.le v0 (.a v2 k1)) rfl
theorem o310(a b c:Nat):a<=c+2->c<=b->a<=b+2:=zc [a,c,b] (.h (.le v0 (.a v1 k2)) (.h (.le v1 v2) .z)) (.le v0 (.a v2 k2)) rfl
theorem o311(a b:Nat):a<=b->a<=b+2:=zc [a,b] (.h (.le v0 v1) .z) (.le v0 (.a v1 k2)) rfl
theorem o312(a:Int)(b:Nat):0<=a->a<(b:Int)->a.toNat<b:=fun h0 h1=>(it 0 a).elim (fun z1=>(Int.ofNat_lt.mp (zd [a,(b:Int),(((a:Int).toNat:Nat):Int)] (.h (.lt v0 v1) (.h (.eq v2 v0) .z)) (.lt v2 v1) rfl h1 (tn z1)))) (fun z2=>(Int.ofNat_lt.mp (zd [a,(b:Int),(((a:Int).toNat:Nat):Int)] (.h (.le k0 v0) (.h (.lt v0 v1) (.h (.eq v2 k0) .z))) (.lt v2 v1) rfl h0 h1 (ce (tz z2)))))
theorem o313(a:Int):0<=a->((a.toNat:Nat):Int)=a:=fun h0=>(it 0 a).elim (fun z1=>(zd [(((a:Int).toNat:Nat):Int),a] (.h (.eq v0 v1) .z) (.eq v0 v1) rfl (tn z1))) (fun z2=>(Int.le_antisymm (zd [a,(((a:Int).toNat:Nat):Int)] (.h (.le k0 v0) (.h (.eq v1 k0) .z)) (.le v1 v0) rfl h0 (ce (tz z2))) (zd [a,(((a:Int).toNat:Nat):Int)] (.h (.le k0 v1) (.h (.le v0 k0) .z)) (.le v0 v1) rfl (cn _) z2)))
theorem o314(a:Int)(b:Nat):¬a<(b:Int)->¬(0<=a/\a<(b:Int)):=fun h0=>fun z1=>(zd [a,(b:Int)] (.h (.nlt v0 v1) (.h (.lt v0 v1) .z)) .no rfl h0 z1.2)
theorem o315(a:Int)(b:Nat):¬0<=a->¬(0<=a/\a<(b:Int)):=fun h0=>fun z1=>(zd [a] (.h (.nle k0 v0) (.h (.le k0 v0) .z)) .no rfl h0 z1.1)
theorem o316(a b:Int):-1<=b->a<0->b<a->a=b:=fun h0 h1 h2=>(zd [b,a] (.h (.le (.g k1) v0) (.h (.lt v1 k0) (.h (.lt v0 v1) .z))) .no rfl h0 h1 h2).elim
theorem o317(a b:Int):-1<=b->b<a->0<=a:=zd [b,a] (.h (.le (.g k1) v0) (.h (.lt v0 v1) .z)) (.le k0 v1) rfl
theorem o318(a b:Int):¬a<b->¬b<a->a=b:=fun h0 h1=>Int.le_antisymm (zd [b,a] (.h (.nlt v0 v1) .z) (.le v1 v0) rfl h1) (zd [a,b] (.h (.nlt v0 v1) .z) (.le v1 v0) rfl h0)
theorem o319(a:Nat):-1<=(a:Int)-1:=zd [(a:Int)] (.h (.le k0 v0) .z) (.le (.g k1) (.s v0 k1)) rfl (cn _)
theorem o320(a:Nat):(a:Int)-1<(a:Int):=zd [(a:Int)] .z (.lt (.s v0 k1) v0) rfl
theorem o321(a:Nat)(b:Int):(a:Int)-1<b->b<(a:Int)->False:=zd [(a:Int),b] (.h (.lt (.s v0 k1) v1) (.h (.lt v1 v0) .z)) .no rfl
theorem o322(a:Nat):a=((a:Int)-1+1:Int).toNat:=(it 0 (((((a:Nat):Nat):Int)-1)+1)).elim (fun z1=>(Int.ofNat_inj.mp (zd [((((((((a:Nat):Nat):Int)-1)+1):Int).toNat:Nat):Int),(a:Int)] (.m (.eq v0 (.a (.s v1 k1) k1)) .z) (.eq v1 v0) rfl (tn z1)))) (fun z2=>(Nat.le_antisymm (Int.ofNat_le.mp (zd [(a:Int),((((((((a:Nat):Nat):Int)-1)+1):Int).toNat:Nat):Int)] (.h (.le k0 v1) (.h (.le (.a (.s v0 k1) k1) k0) .z)) (.le v0 v1) rfl (cn _) z2)) (zc [((((((a:Nat):Nat):Int)-1)+1):Int).toNat,a] (.h (.eq v0 k0) .z) (.le v0 v1) rfl (tz z2))))
theorem o323(a:Int):0<=a->a.toNat<(a+1:Int).toNat:=fun h0=>(it 0 a).elim (fun z1=>((it 0 (a+1)).elim (fun z3=>(Int.ofNat_lt.mp (zd [(((a:Int).toNat:Nat):Int),a,((((a+1):Int).toNat:Nat):Int)] (.h (.eq v0 v1) (.m (.eq v2 (.a v1 k1)) .z)) (.lt v0 v2) rfl (tn z1) (tn z3)))) (fun z4=>(Int.ofNat_lt.mp (zd [(((a:Int).toNat:Nat):Int),a,((((a+1):Int).toNat:Nat):Int)] (.h (.le k0 v2) (.h (.eq v0 v1) (.h (.le (.a v1 k1) k0) .z))) (.lt v0 v2) rfl (cn _) (tn z1) z4))))) (fun z2=>((it 0 (a+1)).elim (fun z5=>(Int.ofNat_lt.mp (zd [a,(((a:Int).toNat:Nat):Int),((((a+1):Int).toNat:Nat):Int)] (.h (.le k0 v0) (.h (.eq v1 k0) (.m (.eq v2 (.a v0 k1)) .z))) (.lt v1 v2) rfl h0 (ce (tz z2)) (tn z5)))) (fun z6=>(Int.ofNat_lt.mp (zd [a,(((a:Int).toNat:Nat):Int),((((a+1):Int).toNat:Nat):Int)] (.h (.le k0 v2) (.h (.le k0 v0) (.h (.eq v1 k0) (.h (.le (.a v0 k1) k0) .z)))) (.lt v1 v2) rfl (cn _) h0 (ce (tz z2)) z6)))))
theorem o324(a:Int):0<=a->-1<=a-1:=zd [a] (.h (.le k0 v0) .z) (.le (.g k1) (.s v0 k1)) rfl
theorem o325(a:Int)(b:Nat):a<(b:Int)->a-1<(b:Int):=zd [a,(b:Int)] (.h (.lt v0 v1) .z) (.lt (.s v0 k1) v1) rfl
theorem o326(a:Int):a.toNat=(a-1+1:Int).toNat:=(it 0 a).elim (fun z1=>((it 0 ((a-1)+1)).elim (fun z3=>(Int.ofNat_inj.mp (zd [(((a:Int).toNat:Nat):Int),a,(((((a-1)+1):Int).toNat:Nat):Int)] (.h (.eq v0 v1) (.m (.eq v2 (.a (.s v1 k1) k1)) .z)) (.eq v0 v2) rfl (tn z1) (tn z3)))) (fun z4=>(Nat.le_antisymm (Int.ofNat_le.mp (zd [(((a:Int).toNat:Nat):Int),a,(((((a-1)+1):Int).toNat:Nat):Int)] (.h (.le k0 v2) (.h (.eq v0 v1) (.h (.le (.a (.s v1 k1) k1) k0) .z))) (.le v0 v2) rfl (cn _) (tn z1) z4)) (zc [(((a-1)+1):Int).toNat,(a:Int).toNat] (.h (.eq v0 k0) .z) (.le v0 v1) rfl (tz z4)))))) (fun z2=>((it 0 ((a-1)+1)).elim (fun z5=>(Nat.le_antisymm (zc [(a:Int).toNat,(((a-1)+1):Int).toNat] (.h (.eq v0 k0) .z) (.le v0 v1) rfl (tz z2)) (Int.ofNat_le.mp (zd [a,(((((a-1)+1):Int).toNat:Nat):Int),(((a:Int).toNat:Nat):Int)] (.h (.le k0 v2) (.h (.le v0 k0) (.h (.eq v1 (.a (.s v0 k1) k1)) .z))) (.le v1 v2) rfl (cn _) z2 (tn z5))))) (fun z6=>(zc [(a:Int).toNat,(((a-1)+1):Int).toNat] (.h (.eq v0 k0) (.m (.eq v1 k0) .z)) (.eq v0 v1) rfl (tz z2) (tz z6)))))
theorem o327(a b:Int):a-1<b->¬b=a->a<b:=fun h0 h1=>(Int.lt_or_gt_of_ne h1).elim (fun z1=>(zd [a,b] (.w (2) (.lt (.s v0 k1) v1) (.h (.lt v1 v0) .z)) (.lt v0 v1) rfl h0 z1)) (fun z2=>z2)
theorem o328(a:Int):0<=a->¬a<0:=zd [a] (.h (.le k0 v0) .z) (.nlt v0 k0) rfl
theorem o329(a:Int):¬0<=a->a<0:=zd [a] (.h (.nle k0 v0) .z) (.lt v0 k0) rfl
theorem o330(a b:Nat):a<b+(a+2):=zc [a,b] .z (.lt v0 (.a v1 (.a v0 k2))) rfl
theorem o331(a b:Nat):a<b+0->b<a->False:=zc [a,b] (.h (.lt v0 (.a v1 k0)) (.h (.lt v1 v0) .z)) .no rfl
theorem o332(a:Nat):a<a+1:=zc [a] .z (.lt v0 (.a v0 k1)) rfl
theorem o333(a b c:Nat):c=a->¬b<c->a<=b:=zc [c,a,b] (.m (.eq v0 v1) (.h (.nlt v2 v0) .z)) (.le v1 v2) rfl
theorem o334(a:Nat):0+a=a:=zc [a] .z (.eq (.a k0 v0) v0) rfl
theorem o335(a:Int)(b c:Nat):a<(c:Int)->b=c->a<((b+2:Nat):Int):=fun h0 h1=>zd [a,(c:Int),(b:Int)] (.h (.lt v0 v1) (.m (.eq v2 v1) .z)) (.lt v0 (.a v2 k2)) rfl h0 (ce h1)
theorem o336(a:Int):0<=a->a<(0:Int)->False:=zd [a] (.h (.le k0 v0) (.h (.lt v0 k0) .z)) .no rfl
theorem o337(a:Int)(b:Nat):a<(b:Int)->a.toNat<=b:=fun h0=>(it 0 a).elim (fun z1=>(Int.ofNat_le.mp (zd [a,(b:Int),(((a:Int).toNat:Nat):Int)] (.h (.lt v0 v1) (.h (.eq v2 v0) .z)) (.le v2 v1) rfl h0 (tn z1)))) (fun z2=>(zc [(a:Int).toNat,b] (.h (.eq v0 k0) .z) (.le v0 v1) rfl (tz z2)))
theorem o338(a b:Int):-1<=a/\a<((b.toNat:Nat):Int)->-1<=a:=fun h0=>h0.1
theorem o339(a:Int)(b:Nat)(c:Int):-1<=a/\a<((c.toNat:Nat):Int)->c<(b:Int)->a<(b:Int):=fun h0 h1=>(it 0 c).elim (fun z1=>(zd [c,(b:Int),a,(((c:Int).toNat:Nat):Int)] (.h (.lt v0 v1) (.h (.lt v2 v3) (.h (.eq v3 v0) .z))) (.lt v2 v1) rfl h1 h0.2 (tn z1))) (fun z2=>(zd [a,(((c:Int).toNat:Nat):Int),(b:Int)] (.h (.le k0 v2) (.h (.lt v0 v1) (.h (.eq v1 k0) .z))) (.lt v0 v2) rfl (cn _) h0.2 (ce (tz z2))))
theorem o340(a b c d:Nat):a+d=c->d=b+1->a+1+b=c:=zc [a,d,c,b] (.h (.eq (.a v0 v1) v2) (.m (.eq v1 (.a v3 k1)) .z)) (.eq (.a (.a v0 k1) v3) v2) rfl
theorem o341(a b c:Nat):a+c=b->c=0->a=b:=zc [a,c,b] (.h (.eq (.a v0 v1) v2) (.m (.eq v1 k0) .z)) (.eq v0 v2) rfl
theorem o342(a:Int)(b c:Nat):a<(c:Int)->c<b->a.toNat<b:=fun h0 h1=>(it 0 a).elim (fun z1=>(Int.ofNat_lt.mp (zd [a,(c:Int),(b:Int),(((a:Int).toNat:Nat):Int)] (.h (.lt v0 v1) (.h (.lt v1 v2) (.h (.eq v3 v0) .z))) (.lt v3 v2) rfl h0 (ct h1) (tn z1)))) (fun z2=>(zc [c,b,(a:Int).toNat] (.h (.lt v0 v1) (.h (.eq v2 k0) .z)) (.lt v2 v1) rfl h1 (tz z2)))
theorem o343(a:Nat):((a:Int)%2=1↔a%2=1):=Int.ofNat_inj (m:=a%2) (n:=1)
theorem o344(a:Int)(b c:Nat):a<(c:Int)->c<b->a.toNat<=b:=fun h0 h1=>(it 0 a).elim (fun z1=>(Int.ofNat_le.mp (zd [a,(c:Int),(b:Int),(((a:Int).toNat:Nat):Int)] (.h (.lt v0 v1) (.h (.lt v1 v2) (.h (.eq v3 v0) .z))) (.le v3 v2) rfl h0 (ct h1) (tn z1)))) (fun z2=>(zc [(a:Int).toNat,b] (.h (.eq v0 k0) .z) (.le v0 v1) rfl (tz z2)))
theorem o345(a:Int)(b:Nat):¬a<=0/\¬(b:Int)<=a->¬(a<=0∨(b:Int)<=a):=fun h0=>fun z1=>(z1.elim (fun z2=>(zd [a] (.h (.nle v0 k0) (.h (.le v0 k0) .z)) .no rfl h0.1 z2)) (fun z3=>(zd [(b:Int),a] (.h (.nle v0 v1) (.h (.le v0 v1) .z)) .no rfl h0.2 z3)))
theorem o346(a:Int)(b:Nat):¬(a<=0∨(b:Int)<=a)->0<a:=fun h0=>zd [a] (.h (.nle v0 k0) .z) (.lt k0 v0) rfl (fun z=>h0 (.inl z))
theorem o347(a:Int)(b:Nat):¬(a<=0∨(b:Int)<=a)->a<(b:Int):=fun h0=>zd [(b:Int),a] (.h (.nle v0 v1) .z) (.lt v1 v0) rfl (fun z=>h0 (.inr z))
theorem o348(a:Nat):a+4<=a+5:=zc [a] .z (.le (.a v0 (.k 4)) (.a v0 (.k 5))) rfl
theorem o349(a:Int)(b c:Nat):0<a->a<(c:Int)->c=b->a.toNat<b:=fun h0 h1 h2=>(it 0 a).elim (fun z1=>(Int.ofNat_lt.mp (zd [a,(c:Int),(b:Int),(((a:Int).toNat:Nat):Int)] (.h (.lt v0 v1) (.h (.eq v1 v2) (.h (.eq v3 v0) .z))) (.lt v3 v2) rfl h1 (ce h2) (tn z1)))) (fun z2=>(Int.ofNat_lt.mp (zd [a,(((a:Int).toNat:Nat):Int),(b:Int)] (.h (.le k0 v2) (.h (.lt k0 v0) (.h (.le v0 k0) (.h (.eq v1 k0) .z)))) (.lt v1 v2) rfl (cn _) h0 z2 (ce (tz z2)))))
theorem o350(a:Int):0<a->0<=a:=zd [a] (.h (.lt k0 v0) .z) (.le k0 v0) rfl
theorem o351(a:Int):0<a->((a.toNat:Nat):Int)=a:=fun h0=>(it 0 a).elim (fun z1=>(zd [(((a:Int).toNat:Nat):Int),a] (.h (.eq v0 v1) .z) (.eq v0 v1) rfl (tn z1))) (fun z2=>((zd [a] (.h (.lt k0 v0) (.h (.le v0 k0) .z)) .no rfl h0 z2).elim))
theorem o352(a:Int):0<a->0<a.toNat:=fun h0=>(it 0 a).elim (fun z1=>(Int.ofNat_lt.mp (zd [a,(((a:Int).toNat:Nat):Int)] (.h (.lt k0 v0) (.m (.eq v1 v0) .z)) (.lt k0 v1) rfl h0 (tn z1)))) (fun z2=>(Int.ofNat_lt.mp (zd [a,(((a:Int).toNat:Nat):Int)] (.h (.le k0 v1) (.h (.lt k0 v0) (.h (.le v0 k0) .z))) (.lt k0 v1) rfl (cn _) h0 z2)))
theorem o353(a:Int)(b c:Nat):((a.toNat:Nat):Int)=a->a<(c:Int)->c=b->a.toNat<b:=fun h0 h1 h2=>Int.ofNat_lt.mp (zd [(((a:Int).toNat:Nat):Int),a,(c:Int),(b:Int)] (.h (.eq v0 v1) (.h (.lt v1 v2) (.h (.eq v2 v3) .z))) (.lt v0 v3) rfl h0 h1 (ce h2))
theorem o354(a:Nat):0+5<=a+6:=zc [a] .z (.le (.a k0 (.k 5)) (.a v0 (.k 6))) rfl
theorem o355(a:Nat):0+4<=a+6:=zc [a] .z (.le (.a k0 (.k 4)) (.a v0 (.k 6))) rfl
theorem o356(a:Nat):-1<=(a:Int):=zd [(a:Int)] (.h (.le k0 v0) .z) (.le (.g k1) v0) rfl (cn _)
theorem o357(a b:Nat):a<b->(a:Int)<(b:Int):=fun h0=>zd [(a:Int),(b:Int)] (.h (.lt v0 v1) .z) (.lt v0 v1) rfl (ct h0)
theorem o358(a:Nat):0+6<=a+6:=zc [a] .z (.le (.a k0 (.k 6)) (.a v0 (.k 6))) rfl
theorem o359(a b c:Nat):c=a->c<=b->a<=b:=zc [c,a,b] (.m (.eq v0 v1) (.h (.le v0 v2) .z)) (.le v1 v2) rfl
theorem o360(a b c:Nat):c=b->¬c<=a->a<b:=zc [c,b,a] (.h (.eq v0 v1) (.h (.nle v0 v2) .z)) (.lt v2 v1) rfl
theorem o361(a b:Nat)(p0:Prop):a<b/\p0->b<=a->False:=fun h0 h1=>zc [b,a] (.h (.le v0 v1) (.h (.lt v1 v0) .z)) .no rfl h1 h0.1
theorem o362(a b:Nat):a<=b/\0<a->(a:Int)-1=((a-1:Nat):Int):=fun h0=>(nt 1 a).elim (fun z1=>(zd [(((a-1):Nat):Int),(a:Int)] (.m (.eq (.a v0 k1) v1) .z) (.eq (.s v1 k1) v0) rfl (ce (sn z1)))) (fun z2=>(Int.le_antisymm (zd [(a:Int),(((a-1):Nat):Int)] (.h (.le k0 v1) (.h (.le v0 k1) .z)) (.le (.s v0 k1) v1) rfl (cn _) (cl z2)) (zd [(a:Int),(((a-1):Nat):Int)] (.h (.lt k0 v0) (.h (.eq v1 k0) .z)) (.le v1 (.s v0 k1)) rfl (ct h0.2) (ce (sz z2)))))
theorem o363(a b:Nat):a<=b->a<b+1:=zc [a,b] (.h (.le v0 v1) .z) (.lt v0 (.a v1 k1)) rfl
theorem o364(a b c:Nat):a<=c->b=c->a<=b:=zc [a,c,b] (.h (.le v0 v1) (.m (.eq v2 v1) .z)) (.le v0 v2) rfl
theorem o365(a b c:Nat):a<c->b=c->0<=(a:Int)/\(a:Int)<(b:Int):=fun h0 h1=>⟨(zd [(a:Int)] (.h (.le k0 v0) .z) (.le k0 v0) rfl (cn _)),(zd [(a:Int),(c:Int),(b:Int)] (.h (.lt v0 v1) (.m (.eq v2 v1) .z)) (.lt v0 v2) rfl (ct h0) (ce h1))⟩
theorem o366(a b:Nat):a<b+1->b<=a->a=b:=fun h0 h1=>Nat.le_antisymm (zc [a,b] (.h (.lt v0 (.a v1 k1)) .z) (.le v0 v1) rfl h0) h1
theorem o367(a b:Nat)(p0:Prop):a<b/\p0->b<=a+0->False:=fun h0 h1=>zc [b,a] (.h (.le v0 (.a v1 k0)) (.h (.lt v1 v0) .z)) .no rfl h1 h0.1
theorem o368(a b:Nat):a<=b+1+(a+1):=zc [a,b] .z (.le v0 (.a (.a v1 k1) (.a v0 k1))) rfl
theorem o369(a b:Nat):¬a+1<=b->¬a=b->¬a<=b:=fun h0 h1=>(Nat.lt_or_gt_of_ne h1).elim (fun z1=>(zc [a,b] (.w (2) (.nle (.a v0 k1) v1) (.h (.lt v0 v1) .z)) (.nle v0 v1) rfl h0 z1)) (fun z2=>(zc [b,a] (.h (.lt v0 v1) .z) (.nle v1 v0) rfl z2))
theorem o370(a b c:Nat):a<c->¬b<c+1->¬a=b:=fun h0 h1=>fun z1=>(zc [a,c,b] (.h (.lt v0 v1) (.h (.nlt v2 (.a v1 k1)) (.m (.eq v0 v2) .z))) .no rfl h0 h1 z1)
theorem o371(a:Nat):a<=1000->a<=100000:=zc [a] (.h (.le v0 (.k 1000)) .z) (.le v0 (.k 100000)) rfl
theorem o372(a:Nat):-1000000<=(a:Int):=zd [(a:Int)] (.h (.le k0 v0) .z) (.le (.g (.k 1000000)) v0) rfl (cn _)
theorem o373(a:Nat):a<=1000->(a:Int)<=1000000:=fun h0=>zd [(a:Int)] (.h (.le v0 (.k 1000)) .z) (.le v0 (.k 1000000)) rfl (cl h0)
theorem o374(a:Nat):0<=a:=zc [a] .z (.le k0 v0) rfl
theorem o375(a b:Nat):b-a=0->a<=b->a=b:=fun h0 h1=>(nt a b).elim (fun z1=>(zc [(b-a),a,b] (.m (.eq v0 k0) (.h (.eq (.a v0 v1) v2) .z)) (.eq v1 v2) rfl h0 (sn z1))) (fun z2=>(Nat.le_antisymm h1 z2))
theorem o376(a:Nat):0<=(a:Int)+1:=zd [(a:Int)] (.h (.le k0 v0) .z) (.le k0 (.a v0 k1)) rfl (cn _)
theorem o377(a:Nat):a<=1000->(a:Int)+1<=100000:=fun h0=>zd [(a:Int)] (.h (.le v0 (.k 1000)) .z) (.le (.a v0 k1) (.k 100000)) rfl (cl h0)
theorem o378(a:Nat):-1000000<=(a:Int)-1:=zd [(a:Int)] (.h (.le k0 v0) .z) (.le (.g (.k 1000000)) (.s v0 k1)) rfl (cn _)
theorem o379(a:Nat):a<=1000->(a:Int)-1<=1000000:=fun h0=>zd [(a:Int)] (.h (.le v0 (.k 1000)) .z) (.le (.s v0 k1) (.k 1000000)) rfl (cl h0)
theorem o380:((-1000000:Int):Int)<=-1:=zd [] .z (.le (.g (.k 1000000)) (.g k1)) rfl
theorem o381:((-1:Int):Int)<=1000000:=zd [] .z (.le (.g k1) (.k 1000000)) rfl
theorem o382(a:Nat):a<=a:=zc [a] .z (.le v0 v0) rfl
theorem o383(a:Nat):((a:Int)-1-(-1):Int).toNat=a:=(it 0 (((((a:Nat):Nat):Int)-1)-(-1))).elim (fun z1=>(Int.ofNat_inj.mp (zd [((((((((a:Nat):Nat):Int)-1)-(-1)):Int).toNat:Nat):Int),(a:Int)] (.h (.eq v0 (.s (.s v1 k1) (.g k1))) .z) (.eq v0 v1) rfl (tn z1)))) (fun z2=>(Nat.le_antisymm (zc [((((((a:Nat):Nat):Int)-1)-(-1)):Int).toNat,a] (.h (.eq v0 k0) .z) (.le v0 v1) rfl (tz z2)) (Int.ofNat_le.mp (zd [(a:Int),((((((((a:Nat):Nat):Int)-1)-(-1)):Int).toNat:Nat):Int)] (.h (.le k0 v1) (.h (.le (.s (.s v0 k1) (.g k1)) k0) .z)) (.le v0 v1) rfl (cn _) z2))))
theorem o384(a b:Nat):a+1<=b->0<=(a:Int)/\(a:Int)<(b:Int):=fun h0=>⟨(zd [(a:Int)] (.h (.le k0 v0) .z) (.le k0 v0) rfl (cn _)),(zd [(a:Int),(b:Int)] (.h (.le (.a v0 k1) v1) .z) (.lt v0 v1) rfl (cl h0))⟩
theorem o385(a:Nat):0<=((a+1:Nat):Int):=zd [(a:Int)] (.h (.le k0 v0) .z) (.le k0 (.a v0 k1)) rfl (cn _)
theorem o386(a:Nat):a+1<=a+1:=zc [a] .z (.le (.a v0 k1) (.a v0 k1)) rfl
theorem o387(a b:Nat):a+1<=b->a+1<=b:=fun h0=>h0
theorem o388(a b:Nat):a+1<=b->(a:Int)<(b:Int)+1:=fun h0=>zd [(a:Int),(b:Int)] (.h (.le (.a v0 k1) v1) .z) (.lt v0 (.a v1 k1)) rfl (cl h0)
theorem o389(a:Int)(b c:Nat):0<=a->a<(c:Int)->c<=b->a.toNat<b:=fun h0 h1 h2=>(it 0 a).elim (fun z1=>(Int.ofNat_lt.mp (zd [a,(c:Int),(b:Int),(((a:Int).toNat:Nat):Int)] (.h (.lt v0 v1) (.h (.le v1 v2) (.h (.eq v3 v0) .z))) (.lt v3 v2) rfl h1 (cl h2) (tn z1)))) (fun z2=>(Int.ofNat_lt.mp (zd [a,(c:Int),(b:Int),(((a:Int).toNat:Nat):Int)] (.h (.le k0 v0) (.h (.lt v0 v1) (.h (.le v1 v2) (.h (.eq v3 k0) .z)))) (.lt v3 v2) rfl h0 h1 (cl h2) (ce (tz z2)))))
theorem o390(a b c:Nat):a<=b->b=c->c<=1000->a+1<100000:=zc [a,b,c] (.h (.le v0 v1) (.h (.eq v1 v2) (.h (.le v2 (.k 1000)) .z))) (.lt (.a v0 k1) (.k 100000)) rfl
theorem o391(a:Int)(b c:Nat):a<(c:Int)->c<=b->a<((b+1:Nat):Int):=fun h0 h1=>zd [a,(c:Int),(b:Int)] (.h (.lt v0 v1) (.h (.le v1 v2) .z)) (.lt v0 (.a v2 k1)) rfl h0 (cl h1)
theorem o392(a:Int)(b:Nat)(p0:Prop):0<=a/\p0->a<(b:Int)->a.toNat<b:=fun h0 h1=>(it 0 a).elim (fun z1=>(Int.ofNat_lt.mp (zd [a,(b:Int),(((a:Int).toNat:Nat):Int)] (.h (.lt v0 v1) (.h (.eq v2 v0) .z)) (.lt v2 v1) rfl h1 (tn z1)))) (fun z2=>(Int.ofNat_lt.mp (zd [a,(b:Int),(((a:Int).toNat:Nat):Int)] (.h (.lt v0 v1) (.h (.le k0 v0) (.h (.eq v2 k0) .z))) (.lt v2 v1) rfl h1 h0.1 (ce (tz z2)))))
theorem o393(a:Int)(p0:Prop):0<=a/\p0->((a.toNat:Nat):Int)=a:=fun h0=>(it 0 a).elim (fun z1=>(zd [(((a:Int).toNat:Nat):Int),a] (.h (.eq v0 v1) .z) (.eq v0 v1) rfl (tn z1))) (fun z2=>(Int.le_antisymm (zd [a,(((a:Int).toNat:Nat):Int)] (.h (.le k0 v0) (.h (.eq v1 k0) .z)) (.le v1 v0) rfl h0.1 (ce (tz z2))) (zd [a,(((a:Int).toNat:Nat):Int)] (.h (.le k0 v1) (.h (.le v0 k0) .z)) (.le v0 v1) rfl (cn _) z2)))
theorem o394(a:Nat):(a:Int)+1=((a+1:Nat):Int):=zd [(a:Int)] .z (.eq (.a v0 k1) (.a v0 k1)) rfl
theorem o395(a b c:Nat):a<=b->b=c->c<=1000->a<100000:=zc [a,b,c] (.h (.le v0 v1) (.h (.eq v1 v2) (.h (.le v2 (.k 1000)) .z))) (.lt v0 (.k 100000)) rfl
theorem o396(a b c:Nat):b-a=c+1->a+1<=b:=fun h0=>(nt a b).elim (fun z1=>(zc [(b-a),c,a,b] (.m (.eq v0 (.a v1 k1)) (.h (.eq (.a v0 v2) v3) .z)) (.le (.a v2 k1) v3) rfl h0 (sn z1))) (fun z2=>((zc [(b-a),c] (.m (.eq v0 (.a v1 k1)) (.h (.eq v0 k0) .z)) .no rfl h0 (sz z2)).elim))
theorem o397(a:Int):a=a+(0:Int):=zd [a] .z (.eq v0 (.a v0 k0)) rfl
theorem o398(a:Int)(b:Nat):a+1+(b:Int)=a+((b:Int)+1):=zd [a,(b:Int)] .z (.eq (.a (.a v0 k1) v1) (.a v0 (.a v1 k1))) rfl
theorem o399(a:Nat):0+(a:Int)=(a:Int):=zd [(a:Int)] .z (.eq (.a k0 v0) v0) rfl
theorem o400(a:Nat):-1000000<=((a+1:Nat):Int):=zd [(a:Int)] (.h (.le k0 v0) .z) (.le (.g (.k 1000000)) (.a v0 k1)) rfl (cn _)
theorem o401(a b:Nat):a=b->b<=1000->((a+1:Nat):Int)<=1000000:=fun h0 h1=>zd [(a:Int),(b:Int)] (.h (.eq v0 v1) (.h (.le v1 (.k 1000)) .z)) (.le (.a v0 k1) (.k 1000000)) rfl (ce h0) (cl h1)
theorem o402(a b:Nat):a=b->b<=1000->a+1<=100000:=zc [a,b] (.h (.eq v0 v1) (.h (.le v1 (.k 1000)) .z)) (.le (.a v0 k1) (.k 100000)) rfl
theorem o403(a b:Nat):a+1<b->a<b-1:=fun h0=>(nt 1 b).elim (fun z1=>(zc [a,b,(b-1)] (.h (.lt (.a v0 k1) v1) (.m (.eq (.a v2 k1) v1) .z)) (.lt v0 v2) rfl h0 (sn z1))) (fun z2=>(zc [a,b,(b-1)] (.h (.lt (.a v0 k1) v1) (.h (.le v1 k1) .z)) (.lt v0 v2) rfl h0 z2))
theorem o404(a:Nat):(1+(a:Int):Int).toNat=a+1:=(it 0 (1+(((a:Nat):Nat):Int))).elim (fun z1=>(Int.ofNat_inj.mp (zd [((((1+(((a:Nat):Nat):Int)):Int).toNat:Nat):Int),(a:Int)] (.h (.eq v0 (.a k1 v1)) .z) (.eq v0 (.a v1 k1)) rfl (tn z1)))) (fun z2=>((zd [(a:Int)] (.h (.le k0 v0) (.h (.le (.a k1 v0) k0) .z)) .no rfl (cn _) z2).elim))
theorem o405:((-1000000:Int):Int)<=1:=zd [] .z (.le (.g (.k 1000000)) k1) rfl
theorem o406:((1:Int):Int)<=1000000:=zd [] .z (.le k1 (.k 1000000)) rfl
theorem o407(a b c:Nat):a<=b+1->b=c->c<=1000->(a:Int)<=1000000:=fun h0 h1 h2=>zd [(a:Int),(b:Int),(c:Int)] (.h (.le v0 (.a v1 k1)) (.h (.eq v1 v2) (.h (.le v2 (.k 1000)) .z))) (.le v0 (.k 1000000)) rfl (cl h0) (ce h1) (cl h2)
theorem o408(a b c:Nat):a<=b+1->b=c->c<=1000->a-1<=100000:=fun h0 h1 h2=>(nt 1 a).elim (fun z1=>(zc [a,b,c,(a-1)] (.h (.le v0 (.a v1 k1)) (.h (.eq v1 v2) (.h (.le v2 (.k 1000)) (.h (.eq (.a v3 k1) v0) .z)))) (.le v3 (.k 100000)) rfl h0 h1 h2 (sn z1))) (fun z2=>(zc [(a-1)] (.h (.eq v0 k0) .z) (.le v0 (.k 100000)) rfl (sz z2)))
theorem o409(a:Nat):0<=1+(a:Int)-1:=zd [(a:Int)] (.h (.le k0 v0) .z) (.le k0 (.s (.a k1 v0) k1)) rfl (cn _)
theorem o410(a:Nat):(1+(a:Int)-1:Int).toNat=a:=(it 0 ((1+(((a:Nat):Nat):Int))-1)).elim (fun z1=>(Int.ofNat_inj.mp (zd [(((((1+(((a:Nat):Nat):Int))-1):Int).toNat:Nat):Int),(a:Int)] (.h (.eq v0 (.s (.a k1 v1) k1)) .z) (.eq v0 v1) rfl (tn z1)))) (fun z2=>(Nat.le_antisymm (zc [(((1+(((a:Nat):Nat):Int))-1):Int).toNat,a] (.h (.eq v0 k0) .z) (.le v0 v1) rfl (tz z2)) (Int.ofNat_le.mp (zd [(a:Int),(((((1+(((a:Nat):Nat):Int))-1):Int).toNat:Nat):Int)] (.h (.le k0 v1) (.h (.le (.s (.a k1 v0) k1) k0) .z)) (.le v0 v1) rfl (cn _) z2))))
theorem o411(a b:Nat):a<b-1->a<b:=fun h0=>(nt 1 b).elim (fun z1=>(zc [a,(b-1),b] (.h (.lt v0 v1) (.h (.eq (.a v1 k1) v2) .z)) (.lt v0 v2) rfl h0 (sn z1))) (fun z2=>(zc [a,(b-1),b] (.h (.lt v0 v1) (.h (.eq v1 k0) .z)) (.lt v0 v2) rfl h0 (sz z2)))
theorem o412(a:Nat):0<=1+(a:Int):=zd [(a:Int)] (.h (.le k0 v0) .z) (.le k0 (.a k1 v0)) rfl (cn _)
theorem o413(a b:Nat):a<b-1->a+1<b:=fun h0=>(nt 1 b).elim (fun z1=>(zc [a,(b-1),b] (.h (.lt v0 v1) (.h (.eq (.a v1 k1) v2) .z)) (.lt (.a v0 k1) v2) rfl h0 (sn z1))) (fun z2=>(zc [a,(b-1),b] (.w (2) (.lt v0 v1) (.w (2) (.eq v1 k0) .z)) (.lt (.a v0 k1) v2) rfl h0 (sz z2)))
theorem o414(a:Int):¬a=452->¬a=453->¬(452<=a/\a<=453):=fun h0 h1=>fun z1=>((Int.lt_or_gt_of_ne h0).elim (fun z2=>(zd [a] (.h (.le (.k 452) v0) (.h (.lt v0 (.k 452)) .z)) .no rfl z1.1 z2)) (fun z3=>((Int.lt_or_gt_of_ne h1).elim (fun z4=>(zd [a] (.h (.lt (.k 452) v0) (.h (.lt v0 (.k 453)) .z)) .no rfl z3 z4)) (fun z5=>(zd [a] (.h (.le v0 (.k 453)) (.h (.lt (.k 453) v0) .z)) .no rfl z1.2 z5)))))
theorem o415(a:Int):¬a=452->¬a=453->¬a=454->¬(452<=a/\a<=454):=fun h0 h1 h2=>fun z1=>((Int.lt_or_gt_of_ne h0).elim (fun z2=>(zd [a] (.h (.le (.k 452) v0) (.h (.lt v0 (.k 452)) .z)) .no rfl z1.1 z2)) (fun z3=>((Int.lt_or_gt_of_ne h1).elim (fun z4=>(zd [a] (.h (.lt (.k 452) v0) (.h (.lt v0 (.k 453)) .z)) .no rfl z3 z4)) (fun z5=>((Int.lt_or_gt_of_ne h2).elim (fun z6=>(zd [a] (.h (.lt (.k 453) v0) (.h (.lt v0 (.k 454)) .z)) .no rfl z5 z6)) (fun z7=>(zd [a] (.h (.le v0 (.k 454)) (.h (.lt (.k 454) v0) .z)) .no rfl z1.2 z7)))))))
theorem o416(a b c:Nat):a+(b+c)<=1000->a+b<=100000:=zc [a,b,c] (.h (.le (.a v0 (.a v1 v2)) (.k 1000)) .z) (.le (.a v0 v1) (.k 100000)) rfl
theorem o417(a b c:Nat):a<=b->b<=c->c<=1000->(a:Int)<=1000000:=fun h0 h1 h2=>zd [(a:Int),(b:Int),(c:Int)] (.h (.le v0 v1) (.h (.le v1 v2) (.h (.le v2 (.k 1000)) .z))) (.le v0 (.k 1000000)) rfl (cl h0) (cl h1) (cl h2)
theorem o418(a b:Nat):a<=b->b<=1000->(a:Int)<=1000000:=fun h0 h1=>zd [(a:Int),(b:Int)] (.h (.le v0 v1) (.h (.le v1 (.k 1000)) .z)) (.le v0 (.k 1000000)) rfl (cl h0) (cl h1)
theorem o419(a b:Nat):((a:Int)-(b:Int):Int).toNat=a-b:=(it 0 ((((a:Nat):Nat):Int)-(((b:Nat):Nat):Int))).elim (fun z1=>((nt b a).elim (fun z3=>(Int.ofNat_inj.mp (zd [(((((((a:Nat):Nat):Int)-(((b:Nat):Nat):Int)):Int).toNat:Nat):Int),(a:Int),(b:Int),(((a-b):Nat):Int)] (.h (.eq v0 (.s v1 v2)) (.m (.eq (.a v3 v2) v1) .z)) (.eq v0 v3) rfl (tn z1) (ce (sn z3))))) (fun z4=>(Nat.le_antisymm (Int.ofNat_le.mp (zd [(((((((a:Nat):Nat):Int)-(((b:Nat):Nat):Int)):Int).toNat:Nat):Int),(a:Int),(b:Int),(((a-b):Nat):Int)] (.h (.le k0 v3) (.h (.eq v0 (.s v1 v2)) (.h (.le v1 v2) .z))) (.le v0 v3) rfl (cn _) (tn z1) (cl z4))) (zc [(a-b),(((((a:Nat):Nat):Int)-(((b:Nat):Nat):Int)):Int).toNat] (.h (.eq v0 k0) .z) (.le v0 v1) rfl (sz z4)))))) (fun z2=>((nt b a).elim (fun z5=>(Nat.le_antisymm (zc [(((((a:Nat):Nat):Int)-(((b:Nat):Nat):Int)):Int).toNat,(a-b)] (.h (.eq v0 k0) .z) (.le v0 v1) rfl (tz z2)) (Int.ofNat_le.mp (zd [(a:Int),(b:Int),(((a-b):Nat):Int),(((((((a:Nat):Nat):Int)-(((b:Nat):Nat):Int)):Int).toNat:Nat):Int)] (.h (.le k0 v3) (.h (.le (.s v0 v1) k0) (.h (.eq (.a v2 v1) v0) .z))) (.le v2 v3) rfl (cn _) z2 (ce (sn z5)))))) (fun z6=>(zc [(((((a:Nat):Nat):Int)-(((b:Nat):Nat):Int)):Int).toNat,(a-b)] (.h (.eq v0 k0) (.m (.eq v1 k0) .z)) (.eq v0 v1) rfl (tz z2) (sz z6)))))
theorem o420(a b c d:Nat):a+(c+1)=d->d<=b->a<b:=zc [a,c,d,b] (.h (.eq (.a v0 (.a v1 k1)) v2) (.h (.le v2 v3) .z)) (.lt v0 v3) rfl
theorem o421(a b:Nat):a<=b->b<=500->a+1<=501:=zc [a,b] (.h (.le v0 v1) (.h (.le v1 (.k 500)) .z)) (.le (.a v0 k1) (.k 501)) rfl
theorem o422(a:Nat):a<=500->a<=100000:=zc [a] (.h (.le v0 (.k 500)) .z) (.le v0 (.k 100000)) rfl
theorem o423(a b:Nat):a<=b->b<=500->0+1+a<=100000:=zc [a,b] (.h (.le v0 v1) (.h (.le v1 (.k 500)) .z)) (.le (.a (.a k0 k1) v0) (.k 100000)) rfl
theorem o424(a:Nat):1<=((a+1:Nat):Int):=zd [(a:Int)] (.h (.le k0 v0) .z) (.le k1 (.a v0 k1)) rfl (cn _)
theorem o425(a:Nat):a<=501->a-(1:Int).toNat+(0+1)<=100000:=fun h=>Nat.le_trans (Nat.succ_le_succ (Nat.le_trans (Nat.sub_le a 1) h)) (by decide)
theorem o426(a:Nat):a<=501->a<=1000:=zc [a] (.h (.le v0 (.k 501)) .z) (.le v0 (.k 1000)) rfl
theorem o427(a b:Nat):a<=a/\a<a+(b+1):=⟨(zc [a] .z (.le v0 v0) rfl),(zc [a,b] .z (.lt v0 (.a v0 (.a v1 k1))) rfl)⟩
theorem o428(a b c:Nat):a+1<=b/\b<a+1+c->a<=b/\b<a+(c+1):=fun h0=>⟨(zc [a,b] (.h (.le (.a v0 k1) v1) .z) (.le v0 v1) rfl h0.1),(zc [b,a,c] (.h (.lt v0 (.a (.a v1 k1) v2)) .z) (.lt v0 (.a v1 (.a v2 k1))) rfl h0.2)⟩
theorem o429(a b:Nat):0<a/\a<b->a<=b:=fun h0=>zc [a,b] (.h (.lt v0 v1) .z) (.le v0 v1) rfl h0.2
theorem o430(a:Nat):a<=500->a<=1000:=zc [a] (.h (.le v0 (.k 500)) .z) (.le v0 (.k 1000)) rfl
theorem o431(a b c d:Nat):a<c+(d-c)->c<d->d<=b->a<b:=fun h0 h1 h2=>(nt c d).elim (fun z1=>(zc [a,c,(d-c),d,b] (.h (.lt v0 (.a v1 v2)) (.h (.le v3 v4) (.h (.eq (.a v2 v1) v3) .z))) (.lt v0 v4) rfl h0 h2 (sn z1))) (fun z2=>(zc [a,c,(d-c),d,b] (.h (.lt v0 (.a v1 v2)) (.h (.lt v1 v3) (.h (.le v3 v4) (.h (.eq v2 k0) .z)))) (.lt v0 v4) rfl h0 h1 h2 (sz z2)))
theorem o432(a b c:Nat):a<c->b=c->(a:Int)<(b:Int):=fun h0 h1=>zd [(a:Int),(c:Int),(b:Int)] (.h (.lt v0 v1) (.m (.eq v2 v1) .z)) (.lt v0 v2) rfl (ct h0) (ce h1)
theorem o433(a:Nat):-1000000<=(a:Int)+1:=zd [(a:Int)] (.h (.le k0 v0) .z) (.le (.g (.k 1000000)) (.a v0 k1)) rfl (cn _)
theorem o434(a b:Nat):a<b->b<=500->(a:Int)+1<=1000000:=fun h0 h1=>zd [(a:Int),(b:Int)] (.h (.lt v0 v1) (.h (.le v1 (.k 500)) .z)) (.le (.a v0 k1) (.k 1000000)) rfl (ct h0) (cl h1)
theorem o435(a b:Nat):a<=b->b<=500->(a:Int)<=1000000:=fun h0 h1=>zd [(a:Int),(b:Int)] (.h (.le v0 v1) (.h (.le v1 (.k 500)) .z)) (.le v0 (.k 1000000)) rfl (cl h0) (cl h1)
theorem o436(a b:Nat):((a:Int)-((b:Int)+1):Int).toNat=a-(b+1):=(it 0 ((((a:Nat):Nat):Int)-((((b:Nat):Nat):Int)+1))).elim (fun z1=>((nt (b+1) a).elim (fun z3=>(Int.ofNat_inj.mp (zd [(((((((a:Nat):Nat):Int)-((((b:Nat):Nat):Int)+1)):Int).toNat:Nat):Int),(a:Int),(b:Int),(((a-(b+1)):Nat):Int)] (.h (.eq v0 (.s v1 (.a v2 k1))) (.m (.eq (.a v3 (.a v2 k1)) v1) .z)) (.eq v0 v3) rfl (tn z1) (ce (sn z3))))) (fun z4=>(Nat.le_antisymm (Int.ofNat_le.mp (zd [(((((((a:Nat):Nat):Int)-((((b:Nat):Nat):Int)+1)):Int).toNat:Nat):Int),(a:Int),(b:Int),(((a-(b+1)):Nat):Int)] (.h (.le k0 v3) (.h (.eq v0 (.s v1 (.a v2 k1))) (.h (.le v1 (.a v2 k1)) .z))) (.le v0 v3) rfl (cn _) (tn z1) (cl z4))) (zc [(a-(b+1)),(((((a:Nat):Nat):Int)-((((b:Nat):Nat):Int)+1)):Int).toNat] (.h (.eq v0 k0) .z) (.le v0 v1) rfl (sz z4)))))) (fun z2=>((nt (b+1) a).elim (fun z5=>(Nat.le_antisymm (zc [(((((a:Nat):Nat):Int)-((((b:Nat):Nat):Int)+1)):Int).toNat,(a-(b+1))] (.h (.eq v0 k0) .z) (.le v0 v1) rfl (tz z2)) (Int.ofNat_le.mp (zd [(a:Int),(b:Int),(((a-(b+1)):Nat):Int),(((((((a:Nat):Nat):Int)-((((b:Nat):Nat):Int)+1)):Int).toNat:Nat):Int)] (.h (.le k0 v3) (.h (.le (.s v0 (.a v1 k1)) k0) (.h (.eq (.a v2 (.a v1 k1)) v0) .z))) (.le v2 v3) rfl (cn _) z2 (ce (sn z5)))))) (fun z6=>(zc [(((((a:Nat):Nat):Int)-((((b:Nat):Nat):Int)+1)):Int).toNat,(a-(b+1))] (.h (.eq v0 k0) (.m (.eq v1 k0) .z)) (.eq v0 v1) rfl (tz z2) (sz z6)))))
theorem o437(a b c:Nat):a<c+(b-c)->c<b->a+1+(b-(a+1))=b:=fun h0 h1=>(nt (a+1) b).elim (fun z1=>(zc [(b-(a+1)),a,b] (.h (.eq (.a v0 (.a v1 k1)) v2) .z) (.eq (.a (.a v1 k1) v0) v2) rfl (sn z1))) (fun z2=>((nt c b).elim (fun z3=>(Nat.le_antisymm (zc [a,c,(b-c),(b-(a+1)),b] (.h (.lt v0 (.a v1 v2)) (.h (.eq v3 k0) (.h (.eq (.a v2 v1) v4) .z))) (.le (.a (.a v0 k1) v3) v4) rfl h0 (sz z2) (sn z3)) (zc [b,a,(b-(a+1))] (.h (.le v0 (.a v1 k1)) .z) (.le v0 (.a (.a v1 k1) v2)) rfl z2))) (fun z4=>((zc [c,b] (.h (.lt v0 v1) (.h (.le v1 v0) .z)) .no rfl h1 z4).elim))))
theorem o438(a:Int)(b:Nat):0<=a->a<=(b:Int)->b<=900->(a+1:Int).natAbs<2^64:=fun h0 h1 h2=>(it 0 (a+1)).elim (fun z1=>(Int.ofNat_lt.mp (zd [a,(b:Int),((((a+1):Int).natAbs:Nat):Int)] (.h (.le v0 v1) (.h (.le v1 (.k 900)) (.h (.eq v2 (.a v0 k1)) .z))) (.lt v2 (.k 18446744073709551616)) rfl h1 (cl h2) (Int.natAbs_of_nonneg z1)))) (fun z2=>(Int.ofNat_lt.mp (zd [a,((((a+1):Int).natAbs:Nat):Int)] (.h (.le k0 v0) (.h (.eq v1 (.g (.a v0 k1))) .z)) (.lt v1 (.k 18446744073709551616)) rfl h0 (Int.ofNat_natAbs_of_nonpos z2))))
theorem o439(a:Int):0<=a->0<=a+1:=zd [a] (.h (.le k0 v0) .z) (.le k0 (.a v0 k1)) rfl
theorem o440(a:Int)(b:Nat):a<=(b:Int)->a+1<=((b+1:Nat):Int):=zd [a,(b:Int)] (.h (.le v0 v1) .z) (.le (.a v0 k1) (.a v1 k1)) rfl
theorem o441(a:Nat):a<=99->a<=99:=fun h0=>h0
theorem o442(a:Int):0<a->¬a=0:=fun h0=>fun z1=>(zd [a] (.h (.lt k0 v0) (.h (.eq v0 k0) .z)) .no rfl h0 z1)
theorem o443(a:Int):0<a->a<=1000->a.natAbs<1073741824:=fun h0 h1=>(it 0 a).elim (fun z1=>(Int.ofNat_lt.mp (zd [a,(((a:Int).natAbs:Nat):Int)] (.h (.le v0 (.k 1000)) (.h (.eq v1 v0) .z)) (.lt v1 (.k 1073741824)) rfl h1 (Int.natAbs_of_nonneg z1)))) (fun z2=>(Int.ofNat_lt.mp (zd [a,(((a:Int).natAbs:Nat):Int)] (.h (.lt k0 v0) (.h (.eq v1 (.g v0)) .z)) (.lt v1 (.k 1073741824)) rfl h0 (Int.ofNat_natAbs_of_nonpos z2))))
theorem o444(a:Nat):a<=99->a<100000:=zc [a] (.h (.le v0 (.k 99)) .z) (.lt v0 (.k 100000)) rfl
theorem o445(a:Nat):a<=99->a<=100:=zc [a] (.h (.le v0 (.k 99)) .z) (.le v0 (.k 100)) rfl
theorem o446(a:Int):0<=a/\a<2147483647->a.natAbs<2^64:=fun h0=>(it 0 a).elim (fun z1=>(Int.ofNat_lt.mp (zd [a,(((a:Int).natAbs:Nat):Int)] (.h (.lt v0 (.k 2147483647)) (.h (.eq v1 v0) .z)) (.lt v1 (.k 18446744073709551616)) rfl h0.2 (Int.natAbs_of_nonneg z1)))) (fun z2=>(Int.ofNat_lt.mp (zd [a,(((a:Int).natAbs:Nat):Int)] (.h (.le k0 v0) (.h (.eq v1 (.g v0)) .z)) (.lt v1 (.k 18446744073709551616)) rfl h0.1 (Int.ofNat_natAbs_of_nonpos z2))))
theorem o447(a:Nat):0<a->0<(a:Int):=fun h0=>zd [(a:Int)] (.h (.lt k0 v0) .z) (.lt k0 v0) rfl (ct h0)
theorem o448(a:Nat):a<=1000->(a:Int)<=1000:=fun h0=>zd [(a:Int)] (.h (.le v0 (.k 1000)) .z) (.le v0 (.k 1000)) rfl (cl h0)
theorem o449(a:Int)(b:Nat):0<b->a<(b:Int)->a.toNat<b:=fun h0 h1=>(it 0 a).elim (fun z1=>(Int.ofNat_lt.mp (zd [a,(b:Int),(((a:Int).toNat:Nat):Int)] (.h (.lt v0 v1) (.h (.eq v2 v0) .z)) (.lt v2 v1) rfl h1 (tn z1)))) (fun z2=>(zc [b,(a:Int).toNat] (.h (.lt k0 v0) (.h (.eq v1 k0) .z)) (.lt v1 v0) rfl h0 (tz z2)))
theorem o450(a b:Nat):a<=b->b<=63->a<=100000:=zc [a,b] (.h (.le v0 v1) (.h (.le v1 (.k 63)) .z)) (.le v0 (.k 100000)) rfl
theorem o451:((0:Int):Int)<=0:=zd [] .z (.le k0 k0) rfl
theorem o452:((0:Int):Int)<=(0:Int):=zd [] .z (.le k0 k0) rfl
theorem o453(a b:Nat):a<=b->b<=63->a<=100:=zc [a,b] (.h (.le v0 v1) (.h (.le v1 (.k 63)) .z)) (.le v0 (.k 100)) rfl
theorem o454(a:Int)(b:Nat):a=97∨a=65∨a=98∨a=66∨a=223∨a=83∨a=115∨a=452∨a=453∨a=454->a=768+(b:Int)->False:=fun h0 h1=>h0.elim (fun z1=>(zd [a,(b:Int)] (.h (.le k0 v1) (.m (.eq v0 (.a (.k 768) v1)) (.h (.eq v0 (.k 97)) .z))) .no rfl (cn _) h1 z1)) (fun z2=>(z2.elim (fun z3=>(zd [a,(b:Int)] (.h (.le k0 v1) (.m (.eq v0 (.a (.k 768) v1)) (.h (.eq v0 (.k 65)) .z))) .no rfl (cn _) h1 z3)) (fun z4=>(z4.elim (fun z5=>(zd [a,(b:Int)] (.h (.le k0 v1) (.m (.eq v0 (.a (.k 768) v1)) (.h (.eq v0 (.k 98)) .z))) .no rfl (cn _) h1 z5)) (fun z6=>(z6.elim (fun z7=>(zd [a,(b:Int)] (.h (.le k0 v1) (.m (.eq v0 (.a (.k 768) v1)) (.h (.eq v0 (.k 66)) .z))) .no rfl (cn _) h1 z7)) (fun z8=>(z8.elim (fun z9=>(zd [a,(b:Int)] (.h (.le k0 v1) (.m (.eq v0 (.a (.k 768) v1)) (.h (.eq v0 (.k 223)) .z))) .no rfl (cn _) h1 z9)) (fun z10=>(z10.elim (fun z11=>(zd [a,(b:Int)] (.h (.le k0 v1) (.m (.eq v0 (.a (.k 768) v1)) (.h (.eq v0 (.k 83)) .z))) .no rfl (cn _) h1 z11)) (fun z12=>(z12.elim (fun z13=>(zd [a,(b:Int)] (.h (.le k0 v1) (.m (.eq v0 (.a (.k 768) v1)) (.h (.eq v0 (.k 115)) .z))) .no rfl (cn _) h1 z13)) (fun z14=>(z14.elim (fun z15=>(zd [a,(b:Int)] (.h (.le k0 v1) (.m (.eq v0 (.a (.k 768) v1)) (.h (.eq v0 (.k 452)) .z))) .no rfl (cn _) h1 z15)) (fun z16=>(z16.elim (fun z17=>(zd [a,(b:Int)] (.h (.le k0 v1) (.m (.eq v0 (.a (.k 768) v1)) (.h (.eq v0 (.k 453)) .z))) .no rfl (cn _) h1 z17)) (fun z18=>(zd [a,(b:Int)] (.h (.le k0 v1) (.m (.eq v0 (.a (.k 768) v1)) (.h (.eq v0 (.k 454)) .z))) .no rfl (cn _) h1 z18))))))))))))))))))
theorem o455(a b:Nat):768+(a:Int)=768+(b:Int)->a<b->False:=fun h0 h1=>zd [(a:Int),(b:Int)] (.m (.eq (.a (.k 768) v0) (.a (.k 768) v1)) (.h (.lt v0 v1) .z)) .no rfl h0 (ct h1)
theorem o456(a b:Nat):10=a+(b+1)->a<100000:=zc [a,b] (.m (.eq (.k 10) (.a v0 (.a v1 k1))) .z) (.lt v0 (.k 100000)) rfl
theorem o457(a:Nat):9-a=0->a<=9->a=9:=fun h0 h1=>(nt a 9).elim (fun z1=>(zc [(9-a),a] (.m (.eq v0 k0) (.h (.eq (.a v0 v1) (.k 9)) .z)) (.eq v1 (.k 9)) rfl h0 (sn z1))) (fun z2=>(Nat.le_antisymm h1 z2))
theorem o458(a:Int)(b:Nat):768<=a/\a<768+(b:Int)->b=9->768<=a/\a<777:=fun h0 h1=>⟨h0.1,(zd [(b:Int),a] (.h (.eq v0 (.k 9)) (.h (.lt v1 (.a (.k 768) v0)) .z)) (.lt v1 (.k 777)) rfl (ce h1) h0.2)⟩
theorem o459(a b:Nat):a<=b->b=9->a<=9:=zc [a,b] (.h (.le v0 v1) (.h (.eq v1 (.k 9)) .z)) (.le v0 (.k 9)) rfl
theorem o460(a:Int)(b c:Nat):a<=(b:Int)->b<=2*c->c=9->a<=(30:Int):=fun h0 h1 h2=>zd [a,(b:Int),(c:Int)] (.h (.le v0 v1) (.h (.le v1 (.t 2 v2)) (.w (2) (.eq v2 (.k 9)) .z))) (.le v0 (.k 30)) rfl h0 (cl h1) (ce h2)
theorem o461(a b:Nat):a<=2*b->b<=9->a<=900:=zc [a,b] (.h (.le v0 (.t 2 v1)) (.w (2) (.le v1 (.k 9)) .z)) (.le v0 (.k 900)) rfl
theorem o462(a:Nat):a<=9->a+1+1+1+1+1+1+1+1+1+1<100000:=zc [a] (.h (.le v0 (.k 9)) .z) (.lt (.a (.a (.a (.a (.a (.a (.a (.a (.a (.a v0 k1) k1) k1) k1) k1) k1) k1) k1) k1) k1) (.k 100000)) rfl
theorem o463(a b:Nat):9-a=b+1->a<9:=fun h0=>(nt a 9).elim (fun z1=>(zc [(9-a),b,a] (.m (.eq v0 (.a v1 k1)) (.h (.eq (.a v0 v2) (.k 9)) .z)) (.lt v2 (.k 9)) rfl h0 (sn z1))) (fun z2=>((zc [(9-a),b] (.m (.eq v0 (.a v1 k1)) (.h (.eq v0 k0) .z)) .no rfl h0 (sz z2)).elim))
theorem o464(a b:Nat):9-a=b+1->9-(a+1)=b:=fun h0=>(nt (a+1) 9).elim (fun z1=>((nt a 9).elim (fun z3=>(zc [(9-a),b,(9-(a+1)),a] (.h (.eq v0 (.a v1 k1)) (.h (.eq (.a v2 (.a v3 k1)) (.k 9)) (.m (.eq (.a v0 v3) (.k 9)) .z))) (.eq v2 v1) rfl h0 (sn z1) (sn z3))) (fun z4=>((zc [(9-a),b] (.m (.eq v0 (.a v1 k1)) (.h (.eq v0 k0) .z)) .no rfl h0 (sz z4)).elim)))) (fun z2=>((nt a 9).elim (fun z5=>(Nat.le_antisymm (zc [(9-(a+1)),b] (.h (.eq v0 k0) .z) (.le v0 v1) rfl (sz z2)) (zc [(9-a),b,a,(9-(a+1))] (.m (.eq v0 (.a v1 k1)) (.h (.le (.k 9) (.a v2 k1)) (.h (.eq (.a v0 v2) (.k 9)) .z))) (.le v1 v3) rfl h0 z2 (sn z5)))) (fun z6=>((zc [(9-a),b] (.m (.eq v0 (.a v1 k1)) (.h (.eq v0 k0) .z)) .no rfl h0 (sz z6)).elim))))
theorem o465(a b c:Nat):9-b=c+1->a=b+1->a<=9:=fun h0 h1=>(nt b 9).elim (fun z1=>(zc [(9-b),c,a,b] (.m (.eq v0 (.a v1 k1)) (.h (.eq v2 (.a v3 k1)) (.h (.eq (.a v0 v3) (.k 9)) .z))) (.le v2 (.k 9)) rfl h0 h1 (sn z1))) (fun z2=>((zc [(9-b),c] (.m (.eq v0 (.a v1 k1)) (.h (.eq v0 k0) .z)) .no rfl h0 (sz z2)).elim))
theorem o466(a:Int)(b c:Nat):768<=a/\a<768+(c:Int)->b=c+1->768<=a/\a<768+(b:Int):=fun h0 h1=>⟨h0.1,(zd [(b:Int),(c:Int),a] (.m (.eq v0 (.a v1 k1)) (.h (.lt v2 (.a (.k 768) v1)) .z)) (.lt v2 (.a (.k 768) v0)) rfl (ce h1) h0.2)⟩
theorem o467(a b c:Nat):a<=c->b=c+1->a<=b:=zc [a,c,b] (.h (.le v0 v1) (.m (.eq v2 (.a v1 k1)) .z)) (.le v0 v2) rfl
theorem o468(a b c:Nat):a<=2*c->b=c+1->a+1<=2*b:=zc [a,c,b] (.h (.le v0 (.t 2 v1)) (.w (-2) (.eq v2 (.a v1 k1)) .z)) (.le (.a v0 k1) (.t 2 v2)) rfl
theorem o469(a b:Nat):a<=2*b->b<=9->a+1<=900:=zc [a,b] (.h (.le v0 (.t 2 v1)) (.w (2) (.le v1 (.k 9)) .z)) (.le (.a v0 k1) (.k 900)) rfl
theorem o470(a b:Nat):a<=b->b<=9->a<100000:=zc [a,b] (.h (.le v0 v1) (.h (.le v1 (.k 9)) .z)) (.lt v0 (.k 100000)) rfl
theorem o471(a b c:Nat):a<=c->b=c+1->a+1<=b:=zc [a,c,b] (.h (.le v0 v1) (.m (.eq v2 (.a v1 k1)) .z)) (.le (.a v0 k1) v2) rfl
theorem o472(a b c:Nat):a<=2*c->b=c+1->a+2<=2*b:=zc [a,c,b] (.h (.le v0 (.t 2 v1)) (.w (-2) (.eq v2 (.a v1 k1)) .z)) (.le (.a v0 k2) (.t 2 v2)) rfl
theorem o473(a b:Nat):b=a+1->768<=768+(a:Int)/\768+(a:Int)<768+(b:Int):=fun h0=>⟨(zd [(a:Int)] (.h (.le k0 v0) .z) (.le (.k 768) (.a (.k 768) v0)) rfl (cn _)),(zd [(b:Int),(a:Int)] (.m (.eq v0 (.a v1 k1)) .z) (.lt (.a (.k 768) v1) (.a (.k 768) v0)) rfl (ce h0))⟩
theorem o474(a b c:Nat):a<=2*c->b=c+1->a+1+1<=2*b:=zc [a,c,b] (.h (.le v0 (.t 2 v1)) (.w (-2) (.eq v2 (.a v1 k1)) .z)) (.le (.a (.a v0 k1) k1) (.t 2 v2)) rfl
theorem o475(a:Int):a=97∨a=65∨a=98∨a=66∨a=223∨a=83∨a=115∨a=452∨a=453∨a=454->1<=a:=fun h0=>h0.elim (fun z1=>(zd [a] (.m (.eq v0 (.k 97)) .z) (.le k1 v0) rfl z1)) (fun z2=>(z2.elim (fun z3=>(zd [a] (.m (.eq v0 (.k 65)) .z) (.le k1 v0) rfl z3)) (fun z4=>(z4.elim (fun z5=>(zd [a] (.m (.eq v0 (.k 98)) .z) (.le k1 v0) rfl z5)) (fun z6=>(z6.elim (fun z7=>(zd [a] (.m (.eq v0 (.k 66)) .z) (.le k1 v0) rfl z7)) (fun z8=>(z8.elim (fun z9=>(zd [a] (.m (.eq v0 (.k 223)) .z) (.le k1 v0) rfl z9)) (fun z10=>(z10.elim (fun z11=>(zd [a] (.m (.eq v0 (.k 83)) .z) (.le k1 v0) rfl z11)) (fun z12=>(z12.elim (fun z13=>(zd [a] (.m (.eq v0 (.k 115)) .z) (.le k1 v0) rfl z13)) (fun z14=>(z14.elim (fun z15=>(zd [a] (.m (.eq v0 (.k 452)) .z) (.le k1 v0) rfl z15)) (fun z16=>(z16.elim (fun z17=>(zd [a] (.m (.eq v0 (.k 453)) .z) (.le k1 v0) rfl z17)) (fun z18=>(zd [a] (.m (.eq v0 (.k 454)) .z) (.le k1 v0) rfl z18))))))))))))))))))
theorem o476(a:Int)(b:Nat):a=97∨a=65∨a=98∨a=66∨a=223∨a=83∨a=115∨a=452∨a=453∨a=454->a<=768+(b:Int):=fun h0=>h0.elim (fun z1=>(zd [a,(b:Int)] (.h (.le k0 v1) (.h (.eq v0 (.k 97)) .z)) (.le v0 (.a (.k 768) v1)) rfl (cn _) z1)) (fun z2=>(z2.elim (fun z3=>(zd [a,(b:Int)] (.h (.le k0 v1) (.h (.eq v0 (.k 65)) .z)) (.le v0 (.a (.k 768) v1)) rfl (cn _) z3)) (fun z4=>(z4.elim (fun z5=>(zd [a,(b:Int)] (.h (.le k0 v1) (.h (.eq v0 (.k 98)) .z)) (.le v0 (.a (.k 768) v1)) rfl (cn _) z5)) (fun z6=>(z6.elim (fun z7=>(zd [a,(b:Int)] (.h (.le k0 v1) (.h (.eq v0 (.k 66)) .z)) (.le v0 (.a (.k 768) v1)) rfl (cn _) z7)) (fun z8=>(z8.elim (fun z9=>(zd [a,(b:Int)] (.h (.le k0 v1) (.h (.eq v0 (.k 223)) .z)) (.le v0 (.a (.k 768) v1)) rfl (cn _) z9)) (fun z10=>(z10.elim (fun z11=>(zd [a,(b:Int)] (.h (.le k0 v1) (.h (.eq v0 (.k 83)) .z)) (.le v0 (.a (.k 768) v1)) rfl (cn _) z11)) (fun z12=>(z12.elim (fun z13=>(zd [a,(b:Int)] (.h (.le k0 v1) (.h (.eq v0 (.k 115)) .z)) (.le v0 (.a (.k 768) v1)) rfl (cn _) z13)) (fun z14=>(z14.elim (fun z15=>(zd [a,(b:Int)] (.h (.le k0 v1) (.h (.eq v0 (.k 452)) .z)) (.le v0 (.a (.k 768) v1)) rfl (cn _) z15)) (fun z16=>(z16.elim (fun z17=>(zd [a,(b:Int)] (.h (.le k0 v1) (.h (.eq v0 (.k 453)) .z)) (.le v0 (.a (.k 768) v1)) rfl (cn _) z17)) (fun z18=>(zd [a,(b:Int)] (.h (.le k0 v1) (.h (.eq v0 (.k 454)) .z)) (.le v0 (.a (.k 768) v1)) rfl (cn _) z18))))))))))))))))))
theorem o477(a:Nat):1<=768+(a:Int):=zd [(a:Int)] (.h (.le k0 v0) .z) (.le k1 (.a (.k 768) v0)) rfl (cn _)
theorem o478(a b:Nat):a<b->768+(a:Int)<=768+(b:Int):=fun h0=>zd [(a:Int),(b:Int)] (.h (.lt v0 v1) .z) (.le (.a (.k 768) v0) (.a (.k 768) v1)) rfl (ct h0)
theorem o479(a:Int)(b:Nat):a=97∨a=65∨a=98∨a=66∨a=223∨a=83∨a=115∨a=452∨a=453∨a=454∨a=768∨a=769∨a=770∨a=771∨a=772∨a=773∨a=774∨a=775∨a=776->b=9->(a-768:Int).toNat<b:=fun h e=>by
 subst e
 rcases h with rfl|rfl|rfl|rfl|rfl|rfl|rfl|rfl|rfl|rfl|rfl|rfl|rfl|rfl|rfl|rfl|rfl|rfl|rfl <;> decide
theorem o480(a:Int):768<=a->768+(((a-768:Int).toNat:Nat):Int)=a:=fun h0=>(it 0 (a-768)).elim (fun z1=>(zd [((((a-768):Int).toNat:Nat):Int),a] (.h (.eq v0 (.s v1 (.k 768))) .z) (.eq (.a (.k 768) v0) v1) rfl (tn z1))) (fun z2=>(Int.le_antisymm (zd [a,((((a-768):Int).toNat:Nat):Int)] (.h (.le (.k 768) v0) (.h (.eq v1 k0) .z)) (.le (.a (.k 768) v1) v0) rfl h0 (ce (tz z2))) (zd [a,((((a-768):Int).toNat:Nat):Int)] (.h (.le k0 v1) (.h (.le (.s v0 (.k 768)) k0) .z)) (.le v0 (.a (.k 768) v1)) rfl (cn _) z2)))
theorem o481(a:Int):a=768∨a=769∨a=770∨a=771∨a=772∨a=773∨a=774∨a=775∨a=776->¬768<=a->False:=fun h0 h1=>h0.elim (fun z1=>(zd [a] (.h (.nle (.k 768) v0) (.m (.eq v0 (.k 768)) .z)) .no rfl h1 z1)) (fun z2=>(z2.elim (fun z3=>(zd [a] (.h (.nle (.k 768) v0) (.m (.eq v0 (.k 769)) .z)) .no rfl h1 z3)) (fun z4=>(z4.elim (fun z5=>(zd [a] (.h (.nle (.k 768) v0) (.m (.eq v0 (.k 770)) .z)) .no rfl h1 z5)) (fun z6=>(z6.elim (fun z7=>(zd [a] (.h (.nle (.k 768) v0) (.m (.eq v0 (.k 771)) .z)) .no rfl h1 z7)) (fun z8=>(z8.elim (fun z9=>(zd [a] (.h (.nle (.k 768) v0) (.m (.eq v0 (.k 772)) .z)) .no rfl h1 z9)) (fun z10=>(z10.elim (fun z11=>(zd [a] (.h (.nle (.k 768) v0) (.m (.eq v0 (.k 773)) .z)) .no rfl h1 z11)) (fun z12=>(z12.elim (fun z13=>(zd [a] (.h (.nle (.k 768) v0) (.m (.eq v0 (.k 774)) .z)) .no rfl h1 z13)) (fun z14=>(z14.elim (fun z15=>(zd [a] (.h (.nle (.k 768) v0) (.m (.eq v0 (.k 775)) .z)) .no rfl h1 z15)) (fun z16=>(zd [a] (.h (.nle (.k 768) v0) (.m (.eq v0 (.k 776)) .z)) .no rfl h1 z16))))))))))))))))
theorem o482(a b:Nat):768+(a:Int)=768+(b:Int)->a=b:=fun h0=>Int.ofNat_inj.mp (zd [(a:Int),(b:Int)] (.h (.eq (.a (.k 768) v0) (.a (.k 768) v1)) .z) (.eq v0 v1) rfl h0)
theorem o483(a:Int):223<=a/\a<=223->¬a=223->False:=fun h0 h1=>(Int.lt_or_gt_of_ne h1).elim (fun z1=>(zd [a] (.h (.le (.k 223) v0) (.h (.lt v0 (.k 223)) .z)) .no rfl h0.1 z1)) (fun z2=>(zd [a] (.h (.le v0 (.k 223)) (.h (.lt (.k 223) v0) .z)) .no rfl h0.2 z2))
theorem o484(a:Int):a=223->¬(223<=a/\a<=223)->False:=fun h0 h1=>zd [a] (.h (.eq v0 (.k 223)) (.h (.nle v0 (.k 223)) .z)) .no rfl h0 (fun z1=>h1 ⟨(zd [a] (.m (.eq v0 (.k 223)) .z) (.le (.k 223) v0) rfl h0),z1⟩)
theorem o485(a:Int):454<=a/\a<=454->a=97->False:=fun h0 h1=>zd [a] (.h (.eq v0 (.k 97)) (.h (.le (.k 454) v0) .z)) .no rfl h1 h0.1
theorem o486(a:Int):454<=a/\a<=454->a=98->False:=fun h0 h1=>zd [a] (.h (.eq v0 (.k 98)) (.h (.le (.k 454) v0) .z)) .no rfl h1 h0.1
theorem o487(a:Int):454<=a/\a<=454->a=115->False:=fun h0 h1=>zd [a] (.h (.eq v0 (.k 115)) (.h (.le (.k 454) v0) .z)) .no rfl h1 h0.1
theorem o488(a:Int):454<=a/\a<=454->¬a=454->False:=fun h0 h1=>(Int.lt_or_gt_of_ne h1).elim (fun z1=>(zd [a] (.h (.le (.k 454) v0) (.h (.lt v0 (.k 454)) .z)) .no rfl h0.1 z1)) (fun z2=>(zd [a] (.h (.le v0 (.k 454)) (.h (.lt (.k 454) v0) .z)) .no rfl h0.2 z2))
theorem o489(a:Int):115<=a/\a<=115->a=97->False:=fun h0 h1=>zd [a] (.h (.eq v0 (.k 97)) (.h (.le (.k 115) v0) .z)) .no rfl h1 h0.1
theorem o490(a:Int):115<=a/\a<=115->a=98->False:=fun h0 h1=>zd [a] (.h (.eq v0 (.k 98)) (.h (.le (.k 115) v0) .z)) .no rfl h1 h0.1
theorem o491(a:Int):115<=a/\a<=115->a=454->False:=fun h0 h1=>zd [a] (.m (.eq v0 (.k 454)) (.h (.le v0 (.k 115)) .z)) .no rfl h1 h0.2
theorem o492(a:Int):115<=a/\a<=115->¬a=115->False:=fun h0 h1=>(Int.lt_or_gt_of_ne h1).elim (fun z1=>(zd [a] (.h (.le (.k 115) v0) (.h (.lt v0 (.k 115)) .z)) .no rfl h0.1 z1)) (fun z2=>(zd [a] (.h (.le v0 (.k 115)) (.h (.lt (.k 115) v0) .z)) .no rfl h0.2 z2))
theorem o493(a:Int):98<=a/\a<=98->a=97->False:=fun h0 h1=>zd [a] (.h (.eq v0 (.k 97)) (.h (.le (.k 98) v0) .z)) .no rfl h1 h0.1
theorem o494(a:Int):98<=a/\a<=98->a=115->False:=fun h0 h1=>zd [a] (.m (.eq v0 (.k 115)) (.h (.le v0 (.k 98)) .z)) .no rfl h1 h0.2
theorem o495(a:Int):98<=a/\a<=98->a=454->False:=fun h0 h1=>zd [a] (.m (.eq v0 (.k 454)) (.h (.le v0 (.k 98)) .z)) .no rfl h1 h0.2
theorem o496(a:Int):98<=a/\a<=98->¬a=98->False:=fun h0 h1=>(Int.lt_or_gt_of_ne h1).elim (fun z1=>(zd [a] (.h (.le (.k 98) v0) (.h (.lt v0 (.k 98)) .z)) .no rfl h0.1 z1)) (fun z2=>(zd [a] (.h (.le v0 (.k 98)) (.h (.lt (.k 98) v0) .z)) .no rfl h0.2 z2))
theorem o497(a:Int):97<=a/\a<=97->a=98->False:=fun h0 h1=>zd [a] (.m (.eq v0 (.k 98)) (.h (.le v0 (.k 97)) .z)) .no rfl h1 h0.2
theorem o498(a:Int):97<=a/\a<=97->a=115->False:=fun h0 h1=>zd [a] (.m (.eq v0 (.k 115)) (.h (.le v0 (.k 97)) .z)) .no rfl h1 h0.2
theorem o499(a:Int):97<=a/\a<=97->a=454->False:=fun h0 h1=>zd [a] (.m (.eq v0 (.k 454)) (.h (.le v0 (.k 97)) .z)) .no rfl h1 h0.2
theorem o500(a:Int):97<=a/\a<=97->¬a=97->False:=fun h0 h1=>(Int.lt_or_gt_of_ne h1).elim (fun z1=>(zd [a] (.h (.le (.k 97) v0) (.h (.lt v0 (.k 97)) .z)) .no rfl h0.1 z1)) (fun z2=>(zd [a] (.h (.le v0 (.k 97)) (.h (.lt (.k 97) v0) .z)) .no rfl h0.2 z2))
theorem o501(a:Int):a=97->¬(97<=a/\a<=97)->False:=fun h0 h1=>zd [a] (.h (.eq v0 (.k 97)) (.h (.nle v0 (.k 97)) .z)) .no rfl h0 (fun z1=>h1 ⟨(zd [a] (.m (.eq v0 (.k 97)) .z) (.le (.k 97) v0) rfl h0),z1⟩)
theorem o502(a:Int):a=98->¬(98<=a/\a<=98)->False:=fun h0 h1=>zd [a] (.h (.eq v0 (.k 98)) (.h (.nle v0 (.k 98)) .z)) .no rfl h0 (fun z1=>h1 ⟨(zd [a] (.m (.eq v0 (.k 98)) .z) (.le (.k 98) v0) rfl h0),z1⟩)
theorem o503(a:Int):a=115->¬(115<=a/\a<=115)->False:=fun h0 h1=>zd [a] (.h (.eq v0 (.k 115)) (.h (.nle v0 (.k 115)) .z)) .no rfl h0 (fun z1=>h1 ⟨(zd [a] (.m (.eq v0 (.k 115)) .z) (.le (.k 115) v0) rfl h0),z1⟩)
theorem o504(a:Int):a=454->¬(454<=a/\a<=454)->False:=fun h0 h1=>zd [a] (.h (.eq v0 (.k 454)) (.h (.nle v0 (.k 454)) .z)) .no rfl h0 (fun z1=>h1 ⟨(zd [a] (.m (.eq v0 (.k 454)) .z) (.le (.k 454) v0) rfl h0),z1⟩)
theorem o505(a:Int):452<=a/\a<=453->a=65->False:=fun h0 h1=>zd [a] (.h (.eq v0 (.k 65)) (.h (.le (.k 452) v0) .z)) .no rfl h1 h0.1
theorem o506(a:Int):452<=a/\a<=453->a=66->False:=fun h0 h1=>zd [a] (.h (.eq v0 (.k 66)) (.h (.le (.k 452) v0) .z)) .no rfl h1 h0.1
theorem o507(a:Int):452<=a/\a<=453->a=83->False:=fun h0 h1=>zd [a] (.h (.eq v0 (.k 83)) (.h (.le (.k 452) v0) .z)) .no rfl h1 h0.1
theorem o508(a:Int):83<=a/\a<=83->a=65->False:=fun h0 h1=>zd [a] (.h (.eq v0 (.k 65)) (.h (.le (.k 83) v0) .z)) .no rfl h1 h0.1
theorem o509(a:Int):83<=a/\a<=83->a=66->False:=fun h0 h1=>zd [a] (.h (.eq v0 (.k 66)) (.h (.le (.k 83) v0) .z)) .no rfl h1 h0.1
theorem o510(a:Int):83<=a/\a<=83->¬a=83->False:=fun h0 h1=>(Int.lt_or_gt_of_ne h1).elim (fun z1=>(zd [a] (.h (.le (.k 83) v0) (.h (.lt v0 (.k 83)) .z)) .no rfl h0.1 z1)) (fun z2=>(zd [a] (.h (.le v0 (.k 83)) (.h (.lt (.k 83) v0) .z)) .no rfl h0.2 z2))
theorem o511(a:Int):66<=a/\a<=66->a=65->False:=fun h0 h1=>zd [a] (.h (.eq v0 (.k 65)) (.h (.le (.k 66) v0) .z)) .no rfl h1 h0.1
theorem o512(a:Int):66<=a/\a<=66->a=83->False:=fun h0 h1=>zd [a] (.m (.eq v0 (.k 83)) (.h (.le v0 (.k 66)) .z)) .no rfl h1 h0.2
theorem o513(a:Int):66<=a/\a<=66->¬a=66->False:=fun h0 h1=>(Int.lt_or_gt_of_ne h1).elim (fun z1=>(zd [a] (.h (.le (.k 66) v0) (.h (.lt v0 (.k 66)) .z)) .no rfl h0.1 z1)) (fun z2=>(zd [a] (.h (.le v0 (.k 66)) (.h (.lt (.k 66) v0) .z)) .no rfl h0.2 z2))
theorem o514(a:Int):65<=a/\a<=65->a=66->False:=fun h0 h1=>zd [a] (.m (.eq v0 (.k 66)) (.h (.le v0 (.k 65)) .z)) .no rfl h1 h0.2
theorem o515(a:Int):65<=a/\a<=65->a=83->False:=fun h0 h1=>zd [a] (.m (.eq v0 (.k 83)) (.h (.le v0 (.k 65)) .z)) .no rfl h1 h0.2
theorem o516(a:Int):65<=a/\a<=65->¬a=65->False:=fun h0 h1=>(Int.lt_or_gt_of_ne h1).elim (fun z1=>(zd [a] (.h (.le (.k 65) v0) (.h (.lt v0 (.k 65)) .z)) .no rfl h0.1 z1)) (fun z2=>(zd [a] (.h (.le v0 (.k 65)) (.h (.lt (.k 65) v0) .z)) .no rfl h0.2 z2))
theorem o517(a:Int):a=65->¬(65<=a/\a<=65)->False:=fun h0 h1=>zd [a] (.h (.eq v0 (.k 65)) (.h (.nle v0 (.k 65)) .z)) .no rfl h0 (fun z1=>h1 ⟨(zd [a] (.m (.eq v0 (.k 65)) .z) (.le (.k 65) v0) rfl h0),z1⟩)
theorem o518(a:Int):a=66->¬(66<=a/\a<=66)->False:=fun h0 h1=>zd [a] (.h (.eq v0 (.k 66)) (.h (.nle v0 (.k 66)) .z)) .no rfl h0 (fun z1=>h1 ⟨(zd [a] (.m (.eq v0 (.k 66)) .z) (.le (.k 66) v0) rfl h0),z1⟩)
theorem o519(a:Int):a=83->¬(83<=a/\a<=83)->False:=fun h0 h1=>zd [a] (.h (.eq v0 (.k 83)) (.h (.nle v0 (.k 83)) .z)) .no rfl h0 (fun z1=>h1 ⟨(zd [a] (.m (.eq v0 (.k 83)) .z) (.le (.k 83) v0) rfl h0),z1⟩)
theorem o520(a b:Nat):19=a+b->a+b=19:=zc [a,b] (.m (.eq (.k 19) (.a v0 v1)) .z) (.eq (.a v0 v1) (.k 19)) rfl
theorem o521(a:Nat):1<=1+2*a:=zc [a] .z (.le k1 (.a k1 (.t 2 v0))) rfl
theorem o522(a b:Nat):a+(b+1)=19->1+2*a<=500:=zc [a,b] (.w (2) (.eq (.a v0 (.a v1 k1)) (.k 19)) .z) (.le (.a k1 (.t 2 v0)) (.k 500)) rfl
theorem o523(a b:Nat):a+(b+1)=19->0+a<=50:=zc [a,b] (.h (.eq (.a v0 (.a v1 k1)) (.k 19)) .z) (.le (.a k0 v0) (.k 50)) rfl
theorem o524(a:Int)(b:Nat):a<=768+(b:Int)->b=9->a<=1000:=fun h0 h1=>zd [a,(b:Int)] (.h (.le v0 (.a (.k 768) v1)) (.h (.eq v1 (.k 9)) .z)) (.le v0 (.k 1000)) rfl h0 (ce h1)
theorem o525(a:Int):1<=a->0<=a+1:=zd [a] (.h (.le k1 v0) .z) (.le k0 (.a v0 k1)) rfl
theorem o526(a:Nat):1+2*(a+1)=1+2*a+2:=zc [a] .z (.eq (.a k1 (.t 2 (.a v0 k1))) (.a (.a k1 (.t 2 v0)) k2)) rfl
theorem o527(a:Nat):0+(a+1)=0+a+1:=zc [a] .z (.eq (.a k0 (.a v0 k1)) (.a (.a k0 v0) k1)) rfl
theorem o528(a b:Int):b<=a/\a<=b->a=b:=fun h0=>Int.le_antisymm h0.2 h0.1
theorem o529(a b c:Nat):c=a+b->a+b=c:=zc [c,a,b] (.m (.eq v0 (.a v1 v2)) .z) (.eq (.a v1 v2) v0) rfl
theorem o530(a:Nat):1<=39+2*a:=zc [a] .z (.le k1 (.a (.k 39) (.t 2 v0))) rfl
theorem o531(a b c:Nat):a+(b+1)=c->c<=9->39+2*a<=500:=zc [a,b,c] (.w (2) (.eq (.a v0 (.a v1 k1)) v2) (.w (2) (.le v2 (.k 9)) .z)) (.le (.a (.k 39) (.t 2 v0)) (.k 500)) rfl
theorem o532(a b c:Nat):a+(b+1)=c->c<=9->19+a<=50:=zc [a,b,c] (.h (.eq (.a v0 (.a v1 k1)) v2) (.h (.le v2 (.k 9)) .z)) (.le (.a (.k 19) v0) (.k 50)) rfl
theorem o533(a:Int):768<=a/\a<777->1<=a:=fun h0=>zd [a] (.h (.le (.k 768) v0) .z) (.le k1 v0) rfl h0.1
theorem o534(a:Int):768<=a/\a<777->a<=1000:=fun h0=>zd [a] (.h (.lt v0 (.k 777)) .z) (.le v0 (.k 1000)) rfl h0.2
theorem o535(a:Nat):39+2*(a+1)=39+2*a+2:=zc [a] .z (.eq (.a (.k 39) (.t 2 (.a v0 k1))) (.a (.a (.k 39) (.t 2 v0)) k2)) rfl
theorem o536(a:Nat):19+(a+1)=19+a+1:=zc [a] .z (.eq (.a (.k 19) (.a v0 k1)) (.a (.a (.k 19) v0) k1)) rfl
theorem o537(a b:Int):b=a->a<=b/\b<=a:=fun h0=>⟨(zd [b,a] (.m (.eq v0 v1) .z) (.le v1 v0) rfl h0),(zd [b,a] (.h (.eq v0 v1) .z) (.le v0 v1) rfl h0)⟩
theorem o538(a:Nat):a<=9->39+2*a<=57:=zc [a] (.w (2) (.le v0 (.k 9)) .z) (.le (.a (.k 39) (.t 2 v0)) (.k 57)) rfl
theorem o539(a:Nat):a<=9->19+a<=28:=zc [a] (.h (.le v0 (.k 9)) .z) (.le (.a (.k 19) v0) (.k 28)) rfl
theorem o540(a b:Nat):3=a+b->a+b=3:=zc [a,b] (.m (.eq k3 (.a v0 v1)) .z) (.eq (.a v0 v1) k3) rfl
theorem o541(a b:Nat):1<=a->1<=a+4*b:=zc [a,b] (.h (.le k1 v0) .z) (.le k1 (.a v0 (.t 4 v1))) rfl
theorem o542(a b c:Nat):b+(c+1)=3->a<=57->a+4*b<=500:=zc [b,c,a] (.w (4) (.eq (.a v0 (.a v1 k1)) k3) (.h (.le v2 (.k 57)) .z)) (.le (.a v2 (.t 4 v0)) (.k 500)) rfl
theorem o543(a b c:Nat):b+(c+1)=3->a<=28->a+2*b<=50:=zc [b,c,a] (.w (2) (.eq (.a v0 (.a v1 k1)) k3) (.h (.le v2 (.k 28)) .z)) (.le (.a v2 (.t 2 v0)) (.k 50)) rfl
theorem o544(a b:Nat):1<=a+4*b+2:=zc [a,b] .z (.le k1 (.a (.a v0 (.t 4 v1)) k2)) rfl
theorem o545(a b c:Nat):b+(c+1)=3->a<=57->a+4*b+2<=500:=zc [b,c,a] (.w (4) (.eq (.a v0 (.a v1 k1)) k3) (.h (.le v2 (.k 57)) .z)) (.le (.a (.a v2 (.t 4 v0)) k2) (.k 500)) rfl
theorem o546(a b c:Nat):b+(c+1)=3->a<=28->a+2*b+1<=50:=zc [b,c,a] (.w (2) (.eq (.a v0 (.a v1 k1)) k3) (.h (.le v2 (.k 28)) .z)) (.le (.a (.a v2 (.t 2 v0)) k1) (.k 50)) rfl
theorem o547(a b:Nat):a+4*(b+1)=a+4*b+2+2:=zc [a,b] .z (.eq (.a v0 (.t 4 (.a v1 k1))) (.a (.a (.a v0 (.t 4 v1)) k2) k2)) rfl
theorem o548(a b:Nat):a+2*(b+1)=a+2*b+1+1:=zc [a,b] .z (.eq (.a v0 (.t 2 (.a v1 k1))) (.a (.a (.a v0 (.t 2 v1)) k1) k1)) rfl
theorem o549(a:Nat):1<=a+4*3:=zc [a] .z (.le k1 (.a v0 (.t 4 k3))) rfl
theorem o550(a:Nat):a<=57->a+4*3<=500:=zc [a] (.h (.le v0 (.k 57)) .z) (.le (.a v0 (.t 4 k3)) (.k 500)) rfl
theorem o551(a:Nat):a<=28->a+2*3<=50:=zc [a] (.h (.le v0 (.k 28)) .z) (.le (.a v0 (.t 2 k3)) (.k 50)) rfl
theorem o552(a:Nat):1<=a+4*3+2:=zc [a] .z (.le k1 (.a (.a v0 (.t 4 k3)) k2)) rfl
theorem o553(a:Nat):a<=57->a+4*3+2<=500:=zc [a] (.h (.le v0 (.k 57)) .z) (.le (.a (.a v0 (.t 4 k3)) k2) (.k 500)) rfl
theorem o554(a:Nat):a<=28->a+2*3+1<=50:=zc [a] (.h (.le v0 (.k 28)) .z) (.le (.a (.a v0 (.t 2 k3)) k1) (.k 50)) rfl
theorem o555(a:Nat):1<=a+4*3+2+2:=zc [a] .z (.le k1 (.a (.a (.a v0 (.t 4 k3)) k2) k2)) rfl
theorem o556(a:Nat):a<=57->a+4*3+2+2<=500:=zc [a] (.h (.le v0 (.k 57)) .z) (.le (.a (.a (.a v0 (.t 4 k3)) k2) k2) (.k 500)) rfl
theorem o557(a:Nat):a<=28->a+2*3+1+1<=50:=zc [a] (.h (.le v0 (.k 28)) .z) (.le (.a (.a (.a v0 (.t 2 k3)) k1) k1) (.k 50)) rfl
theorem o558(a:Nat):1<=a+4*3+2+2+2:=zc [a] .z (.le k1 (.a (.a (.a (.a v0 (.t 4 k3)) k2) k2) k2)) rfl
theorem o559(a:Nat):a<=57->a+4*3+2+2+2<=500:=zc [a] (.h (.le v0 (.k 57)) .z) (.le (.a (.a (.a (.a v0 (.t 4 k3)) k2) k2) k2) (.k 500)) rfl
theorem o560(a:Nat):a<=28->a+2*3+1+1+1<=50:=zc [a] (.h (.le v0 (.k 28)) .z) (.le (.a (.a (.a (.a v0 (.t 2 k3)) k1) k1) k1) (.k 50)) rfl
theorem o561(a b:Nat):10=a+b->a+b=10:=zc [a,b] (.m (.eq (.k 10) (.a v0 v1)) .z) (.eq (.a v0 v1) (.k 10)) rfl
theorem o562(a b:Nat):1<=a+20+2*b:=zc [a,b] .z (.le k1 (.a (.a v0 (.k 20)) (.t 2 v1))) rfl
theorem o563(a b c:Nat):b+(c+1)=10->a<=57->a+20+2*b<=500:=zc [b,c,a] (.w (2) (.eq (.a v0 (.a v1 k1)) (.k 10)) (.h (.le v2 (.k 57)) .z)) (.le (.a (.a v2 (.k 20)) (.t 2 v0)) (.k 500)) rfl
theorem o564(a b c:Nat):b+(c+1)=10->a<=28->a+10+b<=50:=zc [b,c,a] (.h (.eq (.a v0 (.a v1 k1)) (.k 10)) (.h (.le v2 (.k 28)) .z)) (.le (.a (.a v2 (.k 10)) v0) (.k 50)) rfl
theorem o565(a b:Nat):a+20+2*(b+1)=a+20+2*b+2:=zc [a,b] .z (.eq (.a (.a v0 (.k 20)) (.t 2 (.a v1 k1))) (.a (.a (.a v0 (.k 20)) (.t 2 v1)) k2)) rfl
theorem o566(a b:Nat):a+10+(b+1)=a+10+b+1:=zc [a,b] .z (.eq (.a (.a v0 (.k 10)) (.a v1 k1)) (.a (.a (.a v0 (.k 10)) v1) k1)) rfl
theorem o567(a b:Nat):a<=57->b=10->a+20+2*b<=1000:=zc [a,b] (.h (.le v0 (.k 57)) (.w (2) (.eq v1 (.k 10)) .z)) (.le (.a (.a v0 (.k 20)) (.t 2 v1)) (.k 1000)) rfl
theorem o568(a:Int):a=97∨a=65∨a=98∨a=66∨a=223∨a=83∨a=115∨a=452∨a=453∨a=454∨a=768∨a=769∨a=770∨a=771∨a=772∨a=773∨a=774∨a=775∨a=776->0<=a:=fun h0=>h0.elim (fun z1=>(zd [a] (.m (.eq v0 (.k 97)) .z) (.le k0 v0) rfl z1)) (fun z2=>(z2.elim (fun z3=>(zd [a] (.m (.eq v0 (.k 65)) .z) (.le k0 v0) rfl z3)) (fun z4=>(z4.elim (fun z5=>(zd [a] (.m (.eq v0 (.k 98)) .z) (.le k0 v0) rfl z5)) (fun z6=>(z6.elim (fun z7=>(zd [a] (.m (.eq v0 (.k 66)) .z) (.le k0 v0) rfl z7)) (fun z8=>(z8.elim (fun z9=>(zd [a] (.m (.eq v0 (.k 223)) .z) (.le k0 v0) rfl z9)) (fun z10=>(z10.elim (fun z11=>(zd [a] (.m (.eq v0 (.k 83)) .z) (.le k0 v0) rfl z11)) (fun z12=>(z12.elim (fun z13=>(zd [a] (.m (.eq v0 (.k 115)) .z) (.le k0 v0) rfl z13)) (fun z14=>(z14.elim (fun z15=>(zd [a] (.m (.eq v0 (.k 452)) .z) (.le k0 v0) rfl z15)) (fun z16=>(z16.elim (fun z17=>(zd [a] (.m (.eq v0 (.k 453)) .z) (.le k0 v0) rfl z17)) (fun z18=>(z18.elim (fun z19=>(zd [a] (.m (.eq v0 (.k 454)) .z) (.le k0 v0) rfl z19)) (fun z20=>(z20.elim (fun z21=>(zd [a] (.m (.eq v0 (.k 768)) .z) (.le k0 v0) rfl z21)) (fun z22=>(z22.elim (fun z23=>(zd [a] (.m (.eq v0 (.k 769)) .z) (.le k0 v0) rfl z23)) (fun z24=>(z24.elim (fun z25=>(zd [a] (.m (.eq v0 (.k 770)) .z) (.le k0 v0) rfl z25)) (fun z26=>(z26.elim (fun z27=>(zd [a] (.m (.eq v0 (.k 771)) .z) (.le k0 v0) rfl z27)) (fun z28=>(z28.elim (fun z29=>(zd [a] (.m (.eq v0 (.k 772)) .z) (.le k0 v0) rfl z29)) (fun z30=>(z30.elim (fun z31=>(zd [a] (.m (.eq v0 (.k 773)) .z) (.le k0 v0) rfl z31)) (fun z32=>(z32.elim (fun z33=>(zd [a] (.m (.eq v0 (.k 774)) .z) (.le k0 v0) rfl z33)) (fun z34=>(z34.elim (fun z35=>(zd [a] (.m (.eq v0 (.k 775)) .z) (.le k0 v0) rfl z35)) (fun z36=>(zd [a] (.m (.eq v0 (.k 776)) .z) (.le k0 v0) rfl z36))))))))))))))))))))))))))))))))))))
theorem o569(a b:Nat):a<b->a-1<b:=fun h0=>(nt 1 a).elim (fun z1=>(zc [a,b,(a-1)] (.h (.lt v0 v1) (.h (.eq (.a v2 k1) v0) .z)) (.lt v2 v1) rfl h0 (sn z1))) (fun z2=>(zc [a,b,(a-1)] (.h (.lt v0 v1) (.h (.eq v2 k0) .z)) (.lt v2 v1) rfl h0 (sz z2)))
theorem o570(a:Nat):0<a->((a-1:Nat):Int)=(a:Int)-1:=fun h0=>(nt 1 a).elim (fun z1=>(zd [(((a-1):Nat):Int),(a:Int)] (.h (.eq (.a v0 k1) v1) .z) (.eq v0 (.s v1 k1)) rfl (ce (sn z1)))) (fun z2=>(Int.le_antisymm (zd [(a:Int),(((a-1):Nat):Int)] (.h (.lt k0 v0) (.h (.eq v1 k0) .z)) (.le v1 (.s v0 k1)) rfl (ct h0) (ce (sz z2))) (zd [(a:Int),(((a-1):Nat):Int)] (.h (.le k0 v1) (.h (.le v0 k1) .z)) (.le (.s v0 k1) v1) rfl (cn _) (cl z2))))
theorem o571(a b c:Nat):a<=b->b<c->c<=500->a<100000:=zc [a,b,c] (.h (.le v0 v1) (.h (.lt v1 v2) (.h (.le v2 (.k 500)) .z))) (.lt v0 (.k 100000)) rfl
theorem o572(a b:Nat):a<=b->¬a<b->a=b:=fun h0 h1=>Nat.le_antisymm h0 (zc [a,b] (.h (.nlt v0 v1) .z) (.le v1 v0) rfl h1)
theorem o573(a b:Nat):b<a->a-1-b<a:=fun h0=>(nt 1 a).elim (fun z1=>((nt b (a-1)).elim (fun z3=>(zc [(a-1),a,((a-1)-b),b] (.h (.eq (.a v0 k1) v1) (.h (.eq (.a v2 v3) v0) .z)) (.lt v2 v1) rfl (sn z1) (sn z3))) (fun z4=>(zc [b,a,((a-1)-b)] (.h (.lt v0 v1) (.h (.eq v2 k0) .z)) (.lt v2 v1) rfl h0 (sz z4))))) (fun z2=>((nt b (a-1)).elim (fun z5=>(zc [b,a,(a-1),((a-1)-b)] (.h (.lt v0 v1) (.h (.eq v2 k0) (.h (.eq (.a v3 v0) v2) .z))) (.lt v3 v1) rfl h0 (sz z2) (sn z5))) (fun z6=>(zc [b,a,((a-1)-b)] (.h (.lt v0 v1) (.h (.eq v2 k0) .z)) (.lt v2 v1) rfl h0 (sz z6)))))
theorem o574(a b:Nat):b<a->a-1-(a-1-b)=b:=fun h=>Nat.sub_sub_self (Nat.le_sub_one_of_lt h)
theorem o575(a b c d e:Nat):c<d->c=e->d=e->a=b:=fun h0 h1 h2=>(zc [c,d,e] (.h (.lt v0 v1) (.m (.eq v0 v2) (.h (.eq v1 v2) .z))) .no rfl h0 h1 h2).elim
theorem o576(a b:Nat):¬a<b->¬b<a->a=b:=fun h0 h1=>Nat.le_antisymm (zc [b,a] (.h (.nlt v0 v1) .z) (.le v1 v0) rfl h1) (zc [a,b] (.h (.nlt v0 v1) .z) (.le v1 v0) rfl h0)
theorem o577(a b c:Nat):a=b+(c+1)->a=b+1+c:=zc [a,b,c] (.h (.eq v0 (.a v1 (.a v2 k1))) .z) (.eq v0 (.a (.a v1 k1) v2)) rfl
theorem o578(a b:Nat):(a:Int)=(b:Int)->a=b:=fun h0=>Int.ofNat_inj.mp (zd [(a:Int),(b:Int)] (.h (.eq v0 v1) .z) (.eq v0 v1) rfl h0)
theorem o579(a b:Nat):a<b->a=b->False:=zc [a,b] (.h (.lt v0 v1) (.m (.eq v0 v1) .z)) .no rfl
theorem o580(a:Nat):(1<(a:Int)↔1<a):=⟨fun z1=>(Int.ofNat_lt.mp (zd [(a:Int)] (.h (.lt k1 v0) .z) (.lt k1 v0) rfl z1)),fun z2=>(zd [(a:Int)] (.h (.lt k1 v0) .z) (.lt k1 v0) rfl (ct z2))⟩
theorem o581(a:Nat):1<a->a=1->False:=zc [a] (.h (.lt k1 v0) (.h (.eq v0 k1) .z)) .no rfl
theorem o582(a:Nat):1<a->0<=(a:Int)-2:=fun h0=>zd [(a:Int)] (.h (.lt k1 v0) .z) (.le k0 (.s v0 k2)) rfl (ct h0)
theorem o583(a:Nat):1<a->((a-1-1:Nat):Int)=(a:Int)-2:=fun h0=>(nt 1 a).elim (fun z1=>((nt 1 (a-1)).elim (fun z3=>(zd [(((a-1):Nat):Int),(a:Int),((((a-1)-1):Nat):Int)] (.h (.eq (.a v0 k1) v1) (.h (.eq (.a v2 k1) v0) .z)) (.eq v2 (.s v1 k2)) rfl (ce (sn z1)) (ce (sn z3)))) (fun z4=>(Int.le_antisymm (zd [(a:Int),((((a-1)-1):Nat):Int)] (.h (.lt k1 v0) (.h (.eq v1 k0) .z)) (.le v1 (.s v0 k2)) rfl (ct h0) (ce (sz z4))) (zd [(((a-1):Nat):Int),(a:Int),((((a-1)-1):Nat):Int)] (.h (.le k0 v2) (.m (.eq (.a v0 k1) v1) (.h (.le v0 k1) .z))) (.le (.s v1 k2) v2) rfl (cn _) (ce (sn z1)) (cl z4)))))) (fun z2=>((zc [a] (.h (.lt k1 v0) (.h (.le v0 k1) .z)) .no rfl h0 z2).elim))
theorem o584(a b:Nat):b=a+1->¬1<b->a=0:=fun h0 h1=>Nat.le_antisymm (zc [b,a] (.m (.eq v0 (.a v1 k1)) (.h (.nlt k1 v0) .z)) (.le v1 k0) rfl h0 h1) (zc [a] .z (.le k0 v0) rfl)
theorem o585(a b:Nat):a=b+1->0<=(a:Int)-1:=fun h0=>zd [(a:Int),(b:Int)] (.h (.le k0 v1) (.m (.eq v0 (.a v1 k1)) .z)) (.le k0 (.s v0 k1)) rfl (cn _) (ce h0)
theorem o586(a b:Nat):a=b+1->((a-1-0:Nat):Int)=(a:Int)-1:=fun h0=>(nt 1 a).elim (fun z1=>((nt 0 (a-1)).elim (fun z3=>(zd [(((a-1):Nat):Int),(a:Int),((((a-1)-0):Nat):Int)] (.h (.eq (.a v0 k1) v1) (.h (.eq (.a v2 k0) v0) .z)) (.eq v2 (.s v1 k1)) rfl (ce (sn z1)) (ce (sn z3)))) (fun z4=>(Int.le_antisymm (zd [(a:Int),(b:Int),((((a-1)-0):Nat):Int)] (.h (.le k0 v1) (.m (.eq v0 (.a v1 k1)) (.h (.eq v2 k0) .z))) (.le v2 (.s v0 k1)) rfl (cn _) (ce h0) (ce (sz z4))) (zd [(((a-1):Nat):Int),(a:Int),((((a-1)-0):Nat):Int)] (.h (.le k0 v2) (.m (.eq (.a v0 k1) v1) (.h (.le v0 k0) .z))) (.le (.s v1 k1) v2) rfl (cn _) (ce (sn z1)) (cl z4)))))) (fun z2=>((nt 0 (a-1)).elim (fun z5=>(Int.le_antisymm (zd [(a:Int),(b:Int),(((a-1):Nat):Int),((((a-1)-0):Nat):Int)] (.h (.le k0 v1) (.m (.eq v0 (.a v1 k1)) (.h (.eq v2 k0) (.h (.eq (.a v3 k0) v2) .z)))) (.le v3 (.s v0 k1)) rfl (cn _) (ce h0) (ce (sz z2)) (ce (sn z5))) (zd [(a:Int),((((a-1)-0):Nat):Int)] (.h (.le k0 v1) (.h (.le v0 k1) .z)) (.le (.s v0 k1) v1) rfl (cn _) (cl z2)))) (fun z6=>(Int.le_antisymm (zd [(a:Int),(b:Int),((((a-1)-0):Nat):Int)] (.h (.le k0 v1) (.m (.eq v0 (.a v1 k1)) (.h (.eq v2 k0) .z))) (.le v2 (.s v0 k1)) rfl (cn _) (ce h0) (ce (sz z6))) (zd [(a:Int),((((a-1)-0):Nat):Int)] (.h (.le k0 v1) (.h (.le v0 k1) .z)) (.le (.s v0 k1) v1) rfl (cn _) (cl z2))))))
theorem o587(a b:Nat):((a:Int)+1<(b:Int)↔a+1<b):=⟨fun z1=>(Int.ofNat_lt.mp (zd [(a:Int),(b:Int)] (.h (.lt (.a v0 k1) v1) .z) (.lt (.a v0 k1) v1) rfl z1)),fun z2=>(zd [(a:Int),(b:Int)] (.h (.lt (.a v0 k1) v1) .z) (.lt (.a v0 k1) v1) rfl (ct z2))⟩
theorem o588(a b:Nat):a+1<b->b=a+1->False:=zc [a,b] (.h (.lt (.a v0 k1) v1) (.h (.eq v1 (.a v0 k1)) .z)) .no rfl
theorem o589(a:Nat):((a+1:Nat):Int)=(a:Int)+1:=zd [(a:Int)] .z (.eq (.a v0 k1) (.a v0 k1)) rfl
theorem o590(a b c:Nat):b=c+1+a->¬c+1<b->a=0:=fun h0 h1=>Nat.le_antisymm (zc [b,c,a] (.m (.eq v0 (.a (.a v1 k1) v2)) (.h (.nlt (.a v1 k1) v0) .z)) (.le v2 k0) rfl h0 h1) (zc [a] .z (.le k0 v0) rfl)
theorem o591(a b:Nat):(0<=(a:Int)-1-(b:Int)↔b<a):=⟨fun z1=>(Int.ofNat_lt.mp (zd [(a:Int),(b:Int)] (.h (.le k0 (.s (.s v0 k1) v1)) .z) (.lt v1 v0) rfl z1)),fun z2=>(zd [(b:Int),(a:Int)] (.h (.lt v0 v1) .z) (.le k0 (.s (.s v1 k1) v0)) rfl (ct z2))⟩
theorem o592(a b:Nat):b<a->0<=(a:Int)-1-(b:Int):=fun h0=>zd [(b:Int),(a:Int)] (.h (.lt v0 v1) .z) (.le k0 (.s (.s v1 k1) v0)) rfl (ct h0)
theorem o593(a b:Nat):b<a->((a-1-b:Nat):Int)=(a:Int)-1-(b:Int):=fun h0=>(nt 1 a).elim (fun z1=>((nt b (a-1)).elim (fun z3=>(zd [(((a-1):Nat):Int),(a:Int),((((a-1)-b):Nat):Int),(b:Int)] (.h (.eq (.a v0 k1) v1) (.h (.eq (.a v2 v3) v0) .z)) (.eq v2 (.s (.s v1 k1) v3)) rfl (ce (sn z1)) (ce (sn z3)))) (fun z4=>(Int.le_antisymm (zd [(b:Int),(a:Int),((((a-1)-b):Nat):Int)] (.h (.lt v0 v1) (.h (.eq v2 k0) .z)) (.le v2 (.s (.s v1 k1) v0)) rfl (ct h0) (ce (sz z4))) (zd [(((a-1):Nat):Int),(a:Int),(b:Int),((((a-1)-b):Nat):Int)] (.h (.le k0 v3) (.m (.eq (.a v0 k1) v1) (.h (.le v0 v2) .z))) (.le (.s (.s v1 k1) v2) v3) rfl (cn _) (ce (sn z1)) (cl z4)))))) (fun z2=>((nt b (a-1)).elim (fun z5=>(Int.le_antisymm (zd [(b:Int),(a:Int),(((a-1):Nat):Int),((((a-1)-b):Nat):Int)] (.h (.le k0 v0) (.h (.lt v0 v1) (.h (.eq v2 k0) (.h (.eq (.a v3 v0) v2) .z)))) (.le v3 (.s (.s v1 k1) v0)) rfl (cn _) (ct h0) (ce (sz z2)) (ce (sn z5))) (zd [(a:Int),(b:Int),((((a-1)-b):Nat):Int)] (.h (.le k0 v1) (.h (.le k0 v2) (.h (.le v0 k1) .z))) (.le (.s (.s v0 k1) v1) v2) rfl (cn _) (cn _) (cl z2)))) (fun z6=>(Int.le_antisymm (zd [(b:Int),(a:Int),((((a-1)-b):Nat):Int)] (.h (.lt v0 v1) (.h (.eq v2 k0) .z)) (.le v2 (.s (.s v1 k1) v0)) rfl (ct h0) (ce (sz z6))) (zd [(a:Int),(b:Int),((((a-1)-b):Nat):Int)] (.h (.le k0 v1) (.h (.le k0 v2) (.h (.le v0 k1) .z))) (.le (.s (.s v0 k1) v1) v2) rfl (cn _) (cn _) (cl z2))))))
theorem o594(a b c:Nat)(p0:Prop):a+b=c->b<c/\p0->a-1<a:=fun h0 h1=>(nt 1 a).elim (fun z1=>(zc [(a-1),a] (.h (.eq (.a v0 k1) v1) .z) (.lt v0 v1) rfl (sn z1))) (fun z2=>(zc [a,b,c,(a-1)] (.m (.eq (.a v0 v1) v2) (.h (.lt v1 v2) (.h (.eq v3 k0) .z))) (.lt v3 v0) rfl h0 h1.1 (sz z2)))
theorem o595(a b c:Nat)(p0:Prop):a+b=c->b<c/\p0->a-1+(b+1)=c:=fun h0 h1=>(nt 1 a).elim (fun z1=>(zc [a,b,c,(a-1)] (.h (.eq (.a v0 v1) v2) (.h (.eq (.a v3 k1) v0) .z)) (.eq (.a v3 (.a v1 k1)) v2) rfl h0 (sn z1))) (fun z2=>(Nat.le_antisymm (zc [b,c,(a-1)] (.h (.lt v0 v1) (.h (.eq v2 k0) .z)) (.le (.a v2 (.a v0 k1)) v1) rfl h1.1 (sz z2)) (zc [a,b,c,(a-1)] (.m (.eq (.a v0 v1) v2) (.h (.le v0 k1) .z)) (.le v2 (.a v3 (.a v1 k1))) rfl h0 z2)))
theorem o596(a:Nat):a<=400->a<=100000:=zc [a] (.h (.le v0 (.k 400)) .z) (.le v0 (.k 100000)) rfl
theorem o597(a b:Nat):a=b->b<=400->a<=500:=zc [a,b] (.h (.eq v0 v1) (.h (.le v1 (.k 400)) .z)) (.le v0 (.k 500)) rfl
theorem o598(a:Nat):0<=a+1:=zc [a] .z (.le k0 (.a v0 k1)) rfl
theorem o599(a b c:Nat):a<=b+1->b=c->c<=400->(a:Int)<=1000000:=fun h0 h1 h2=>zd [(a:Int),(b:Int),(c:Int)] (.h (.le v0 (.a v1 k1)) (.h (.eq v1 v2) (.h (.le v2 (.k 400)) .z))) (.le v0 (.k 1000000)) rfl (cl h0) (ce h1) (cl h2)
theorem o600(a b c d:Nat):0-c=d+1->a=b+1:=fun h0=>(nt c 0).elim (fun z1=>((zc [(0-c),d,c] (.m (.eq v0 (.a v1 k1)) (.h (.eq (.a v0 v2) k0) .z)) .no rfl h0 (sn z1)).elim)) (fun z2=>((zc [(0-c),d] (.m (.eq v0 (.a v1 k1)) (.h (.eq v0 k0) .z)) .no rfl h0 (sz z2)).elim))
theorem o601(a b c d:Nat):c-a=d+1->c=b+1->a<=b:=fun h0 h1=>(nt a c).elim (fun z1=>(zc [(c-a),d,c,b,a] (.m (.eq v0 (.a v1 k1)) (.h (.eq v2 (.a v3 k1)) (.h (.eq (.a v0 v4) v2) .z))) (.le v4 v3) rfl h0 h1 (sn z1))) (fun z2=>((zc [(c-a),d] (.m (.eq v0 (.a v1 k1)) (.h (.eq v0 k0) .z)) .no rfl h0 (sz z2)).elim))
theorem o602(a b c d:Nat):a<=b->b<=c->c=d->d<=400->a<100000:=zc [a,b,c,d] (.h (.le v0 v1) (.h (.le v1 v2) (.h (.eq v2 v3) (.h (.le v3 (.k 400)) .z)))) (.lt v0 (.k 100000)) rfl
theorem o603(a b:Nat):((a:Int)=(b:Int)↔a=b):=⟨fun z1=>(Int.ofNat_inj.mp (zd [(a:Int),(b:Int)] (.h (.eq v0 v1) .z) (.eq v0 v1) rfl z1)),fun z2=>(zd [(a:Int),(b:Int)] (.h (.eq v0 v1) .z) (.eq v0 v1) rfl (ce z2))⟩
theorem o604(a b:Nat):¬(a=0∨a=b)->0<a:=fun h0=>(Nat.lt_or_gt_of_ne (fun z=>h0 (.inl z))).elim (fun z1=>(zc [a] (.h (.lt v0 k0) .z) (.lt k0 v0) rfl z1)) (fun z2=>z2)
theorem o605(a b:Nat):a<=b->¬(a=0∨a=b)->a<b:=fun h0 h1=>(Nat.lt_or_gt_of_ne (fun z=>h1 (.inl z))).elim (fun z1=>(zc [a,b] (.h (.lt v0 k0) .z) (.lt v0 v1) rfl z1)) (fun z2=>((Nat.lt_or_gt_of_ne (fun z=>h1 (.inr z))).elim (fun z3=>z3) (fun z4=>(zc [a,b] (.w (2) (.le v0 v1) (.h (.lt v1 v0) .z)) (.lt v0 v1) rfl h0 z4))))
theorem o606(a:Nat):((a:Int):Int).toNat-1=((a:Int)-1:Int).toNat:=(Int.toNat_sub a 1).symm
theorem o607(a:Nat):((a:Int)-1:Int).toNat=((a:Int):Int).toNat-1:=Int.toNat_sub a 1
theorem o608(a b c:Nat):a+(b+1)=c->c<=500->a<100000:=zc [a,b,c] (.h (.eq (.a v0 (.a v1 k1)) v2) (.h (.le v2 (.k 500)) .z)) (.lt v0 (.k 100000)) rfl
theorem o609(a:Nat):((-1)+((a:Int)+1):Int).toNat=a:=(it 0 ((-1)+((((a:Nat):Nat):Int)+1))).elim (fun z1=>(Int.ofNat_inj.mp (zd [(((((-1)+((((a:Nat):Nat):Int)+1)):Int).toNat:Nat):Int),(a:Int)] (.h (.eq v0 (.a (.g k1) (.a v1 k1))) .z) (.eq v0 v1) rfl (tn z1)))) (fun z2=>(Nat.le_antisymm (zc [(((-1)+((((a:Nat):Nat):Int)+1)):Int).toNat,a] (.h (.eq v0 k0) .z) (.le v0 v1) rfl (tz z2)) (Int.ofNat_le.mp (zd [(a:Int),(((((-1)+((((a:Nat):Nat):Int)+1)):Int).toNat:Nat):Int)] (.h (.le k0 v1) (.h (.le (.a (.g k1) (.a v0 k1)) k0) .z)) (.le v0 v1) rfl (cn _) z2))))
theorem o610(a:Nat):((-2)+((a:Int)+2):Int).toNat=a:=(it 0 ((-2)+((((a:Nat):Nat):Int)+2))).elim (fun z1=>(Int.ofNat_inj.mp (zd [(((((-2)+((((a:Nat):Nat):Int)+2)):Int).toNat:Nat):Int),(a:Int)] (.h (.eq v0 (.a (.g k2) (.a v1 k2))) .z) (.eq v0 v1) rfl (tn z1)))) (fun z2=>(Nat.le_antisymm (zc [(((-2)+((((a:Nat):Nat):Int)+2)):Int).toNat,a] (.h (.eq v0 k0) .z) (.le v0 v1) rfl (tz z2)) (Int.ofNat_le.mp (zd [(a:Int),(((((-2)+((((a:Nat):Nat):Int)+2)):Int).toNat:Nat):Int)] (.h (.le k0 v1) (.h (.le (.a (.g k2) (.a v0 k2)) k0) .z)) (.le v0 v1) rfl (cn _) z2))))
theorem o611(a:Nat):a<=800->a<=900:=zc [a] (.h (.le v0 (.k 800)) .z) (.le v0 (.k 900)) rfl
theorem o612(a:Nat):0<(a:Int)+1:=zd [(a:Int)] (.h (.le k0 v0) .z) (.lt k0 (.a v0 k1)) rfl (cn _)
theorem o613(a:Nat):a<=400->(a:Int)+1<=1000:=fun h0=>zd [(a:Int)] (.h (.le v0 (.k 400)) .z) (.le (.a v0 k1) (.k 1000)) rfl (cl h0)
theorem o614(a b:Nat):(a:Int)<(b:Int)+1->a<=b:=fun h0=>Int.ofNat_le.mp (zd [(a:Int),(b:Int)] (.h (.lt v0 (.a v1 k1)) .z) (.le v0 v1) rfl h0)
theorem o615(a:Nat):a<=400->a<=1000:=zc [a] (.h (.le v0 (.k 400)) .z) (.le v0 (.k 1000)) rfl
theorem o616(a b c:Nat):a<=b+1->b=c->c<=400->a<=100000:=zc [a,b,c] (.h (.le v0 (.a v1 k1)) (.h (.eq v1 v2) (.h (.le v2 (.k 400)) .z))) (.le v0 (.k 100000)) rfl
theorem o617(a:Nat):1<=(a:Int)+1:=zd [(a:Int)] (.h (.le k0 v0) .z) (.le k1 (.a v0 k1)) rfl (cn _)
theorem o618(a b:Nat):b<a->¬(a<=b/\0<a):=fun h0=>fun z1=>(zc [b,a] (.h (.lt v0 v1) (.h (.le v1 v0) .z)) .no rfl h0 z1.1)
theorem o619(a b c:Nat):a<=c->b=c->¬a<b->a=b:=fun h0 h1 h2=>Nat.le_antisymm (zc [a,c,b] (.h (.le v0 v1) (.m (.eq v2 v1) .z)) (.le v0 v2) rfl h0 h1) (zc [a,b] (.h (.nlt v0 v1) .z) (.le v1 v0) rfl h2)
theorem o620(a b c:Nat):0<c->a=c->¬b<a->a<=b/\0<a:=fun h0 h1 h2=>⟨(zc [b,a] (.h (.nlt v0 v1) .z) (.le v1 v0) rfl h2),(zc [c,a] (.h (.lt k0 v0) (.m (.eq v1 v0) .z)) (.lt k0 v1) rfl h0 h1)⟩
theorem o621(a:Nat):2<=(a:Int)+2:=zd [(a:Int)] (.h (.le k0 v0) .z) (.le k2 (.a v0 k2)) rfl (cn _)
theorem o622(a:Nat):1<=(a:Int)+2:=zd [(a:Int)] (.h (.le k0 v0) .z) (.le k1 (.a v0 k2)) rfl (cn _)
theorem o623(a:Nat):a<=1->max 1 a<=1:=fun h0=>(nt 1 a).elim (fun z1=>(zc [a,(max 1 a)] (.h (.le v0 k1) (.h (.eq v1 v0) .z)) (.le v1 k1) rfl h0 (Nat.max_eq_right z1))) (fun z2=>(zc [(max 1 a)] (.h (.eq v0 k1) .z) (.le v0 k1) rfl (Nat.max_eq_left z2)))
theorem o624(a:Nat):a<=1->a<=63:=zc [a] (.h (.le v0 k1) .z) (.le v0 (.k 63)) rfl
theorem o625(a:Nat):(a:Int)<9->a<=8:=fun h0=>Int.ofNat_le.mp (zd [(a:Int)] (.h (.lt v0 (.k 9)) .z) (.le v0 (.k 8)) rfl h0)
theorem o626(a:Nat):a<=8->(a:Int)<=1000000:=fun h0=>zd [(a:Int)] (.h (.le v0 (.k 8)) .z) (.le v0 (.k 1000000)) rfl (cl h0)
theorem o627(a b c:Nat):a=b->b<=c->c<=8->a<100000:=zc [a,b,c] (.h (.eq v0 v1) (.h (.le v1 v2) (.h (.le v2 (.k 8)) .z))) (.lt v0 (.k 100000)) rfl
theorem o628(a b:Nat):a<=b->b<=8->31+a<=900:=zc [a,b] (.h (.le v0 v1) (.h (.le v1 (.k 8)) .z)) (.le (.a (.k 31) v0) (.k 900)) rfl
theorem o629(a:Nat):31+a+1=31+(a+1):=zc [a] .z (.eq (.a (.a (.k 31) v0) k1) (.a (.k 31) (.a v0 k1))) rfl
theorem o630(a b c:Nat):a=b->b<=c->c<=8->a<=100000:=zc [a,b,c] (.h (.eq v0 v1) (.h (.le v1 v2) (.h (.le v2 (.k 8)) .z))) (.le v0 (.k 100000)) rfl
theorem o631(a b:Nat):a=b->b<=8->a<=8:=zc [a,b] (.h (.eq v0 v1) (.h (.le v1 (.k 8)) .z)) (.le v0 (.k 8)) rfl
theorem o632(a:Nat):a<=8->31+a<=39:=zc [a] (.h (.le v0 (.k 8)) .z) (.le (.a (.k 31) v0) (.k 39)) rfl
theorem o633(a:Nat):a<=8->a<=400:=zc [a] (.h (.le v0 (.k 8)) .z) (.le v0 (.k 400)) rfl
theorem o634(a:Nat):a<=8->a<=1000:=zc [a] (.h (.le v0 (.k 8)) .z) (.le v0 (.k 1000)) rfl
theorem o635(a:Nat):a<=8->((a+1:Nat):Int)<=1000000:=fun h0=>zd [(a:Int)] (.h (.le v0 (.k 8)) .z) (.le (.a v0 k1) (.k 1000000)) rfl (cl h0)
theorem o636(a b c:Nat):a<=b->b<=c+1->c<=8->a<=100000:=zc [a,b,c] (.h (.le v0 v1) (.h (.le v1 (.a v2 k1)) (.h (.le v2 (.k 8)) .z))) (.le v0 (.k 100000)) rfl
theorem o637(a b:Nat):b+1-a=0->a<=b+1->a=b+1:=fun h0 h1=>(nt a (b+1)).elim (fun z1=>(zc [((b+1)-a),a,b] (.m (.eq v0 k0) (.h (.eq (.a v0 v1) (.a v2 k1)) .z)) (.eq v1 (.a v2 k1)) rfl h0 (sn z1))) (fun z2=>(Nat.le_antisymm h1 z2))
theorem o638(a b c:Nat):a<=b->b<=c+1->c<=8->a<100000:=zc [a,b,c] (.h (.le v0 v1) (.h (.le v1 (.a v2 k1)) (.h (.le v2 (.k 8)) .z))) (.lt v0 (.k 100000)) rfl
theorem o639(a b c:Nat):b+1-a=c+1->a+1<=b+1:=fun h0=>(nt a (b+1)).elim (fun z1=>(zc [((b+1)-a),c,a,b] (.m (.eq v0 (.a v1 k1)) (.h (.eq (.a v0 v2) (.a v3 k1)) .z)) (.le (.a v2 k1) (.a v3 k1)) rfl h0 (sn z1))) (fun z2=>((zc [((b+1)-a),c] (.m (.eq v0 (.a v1 k1)) (.h (.eq v0 k0) .z)) .no rfl h0 (sz z2)).elim))
theorem o640(a b c:Nat):a+1-b=c+1->a+1-(b+1)=c:=fun h0=>(nt (b+1) (a+1)).elim (fun z1=>((nt b (a+1)).elim (fun z3=>(zc [((a+1)-b),c,((a+1)-(b+1)),b,a] (.h (.eq v0 (.a v1 k1)) (.h (.eq (.a v2 (.a v3 k1)) (.a v4 k1)) (.m (.eq (.a v0 v3) (.a v4 k1)) .z))) (.eq v2 v1) rfl h0 (sn z1) (sn z3))) (fun z4=>((zc [((a+1)-b),c] (.m (.eq v0 (.a v1 k1)) (.h (.eq v0 k0) .z)) .no rfl h0 (sz z4)).elim)))) (fun z2=>((nt b (a+1)).elim (fun z5=>(Nat.le_antisymm (zc [((a+1)-(b+1)),c] (.h (.eq v0 k0) .z) (.le v0 v1) rfl (sz z2)) (zc [((a+1)-b),c,a,b,((a+1)-(b+1))] (.m (.eq v0 (.a v1 k1)) (.h (.le (.a v2 k1) (.a v3 k1)) (.h (.eq (.a v0 v3) (.a v2 k1)) .z))) (.le v1 v4) rfl h0 z2 (sn z5)))) (fun z6=>((zc [((a+1)-b),c] (.m (.eq v0 (.a v1 k1)) (.h (.eq v0 k0) .z)) .no rfl h0 (sz z6)).elim))))
theorem o641(a b c:Nat):a<=c+1->c<=8->min a b<=9:=fun h0 h1=>(nt a b).elim (fun z1=>(zc [a,c,(min a b)] (.h (.le v0 (.a v1 k1)) (.h (.le v1 (.k 8)) (.h (.eq v2 v0) .z))) (.le v2 (.k 9)) rfl h0 h1 (Nat.min_eq_left z1))) (fun z2=>(zc [a,c,b,(min a b)] (.h (.le v0 (.a v1 k1)) (.h (.le v1 (.k 8)) (.h (.le v2 v0) (.h (.eq v3 v2) .z)))) (.le v3 (.k 9)) rfl h0 h1 z2 (Nat.min_eq_right z2)))
theorem o642(a:Nat):a<=9->a<=100000:=zc [a] (.h (.le v0 (.k 9)) .z) (.le v0 (.k 100000)) rfl
theorem o643(a b:Nat):a<=b+1->b<=8->a<=1000:=zc [a,b] (.h (.le v0 (.a v1 k1)) (.h (.le v1 (.k 8)) .z)) (.le v0 (.k 1000)) rfl
theorem o644(a:Nat):a<=39->a<=800:=zc [a] (.h (.le v0 (.k 39)) .z) (.le v0 (.k 800)) rfl
theorem o645(a b c:Nat):a<=b->b<=c->c<=8->a<=8:=zc [a,b,c] (.h (.le v0 v1) (.h (.le v1 v2) (.h (.le v2 (.k 8)) .z))) (.le v0 (.k 8)) rfl
theorem o646(a b c:Nat):a<=8->b<=8*c->a+b<=8*(c+1):=zc [a,b,c] (.h (.le v0 (.k 8)) (.h (.le v1 (.t 8 v2)) .z)) (.le (.a v0 v1) (.t 8 (.a v2 k1))) rfl
theorem o647(a b c:Nat):b=a+c->b<=9->a<=9:=zc [b,a,c] (.m (.eq v0 (.a v1 v2)) (.h (.le v0 (.k 9)) .z)) (.le v1 (.k 9)) rfl
theorem o648(a b:Nat):a<=8*b->b<=9->a<=72:=zc [a,b] (.h (.le v0 (.t 8 v1)) (.w (8) (.le v1 (.k 9)) .z)) (.le v0 (.k 72)) rfl
theorem o649(a:Nat):a<=8->a<=500:=zc [a] (.h (.le v0 (.k 8)) .z) (.le v0 (.k 500)) rfl
theorem o650(a b c:Nat):b=a+c->b<=8->a<=8:=zc [b,a,c] (.m (.eq v0 (.a v1 v2)) (.h (.le v0 (.k 8)) .z)) (.le v1 (.k 8)) rfl
theorem o651(a b c:Nat):a<=72->b=c->c<=8->a+b<100000:=zc [a,b,c] (.h (.le v0 (.k 72)) (.h (.eq v1 v2) (.h (.le v2 (.k 8)) .z))) (.lt (.a v0 v1) (.k 100000)) rfl
theorem o652(a:Nat):a<=72->a<=100000:=zc [a] (.h (.le v0 (.k 72)) .z) (.le v0 (.k 100000)) rfl
theorem o653(a b:Nat):a<=b+1->b<=8->a<=500:=zc [a,b] (.h (.le v0 (.a v1 k1)) (.h (.le v1 (.k 8)) .z)) (.le v0 (.k 500)) rfl
theorem o654(a b:Nat):a<=2*b->b<=8->a<=1000:=zc [a,b] (.h (.le v0 (.t 2 v1)) (.w (2) (.le v1 (.k 8)) .z)) (.le v0 (.k 1000)) rfl
theorem o655(a b:Nat):a<=8*b->b<=9->a<=8*9:=zc [a,b] (.h (.le v0 (.t 8 v1)) (.w (8) (.le v1 (.k 9)) .z)) (.le v0 (.t 8 (.k 9))) rfl
theorem o656(a b c:Nat):a+b<=2*c->c<=8->a<=16:=zc [a,b,c] (.h (.le (.a v0 v1) (.t 2 v2)) (.w (2) (.le v2 (.k 8)) .z)) (.le v0 (.k 16)) rfl
theorem o657(a b c d:Nat):b+(a+c)<=2*d->d<=8->a<=16:=zc [b,a,c,d] (.h (.le (.a v0 (.a v1 v2)) (.t 2 v3)) (.w (2) (.le v3 (.k 8)) .z)) (.le v1 (.k 16)) rfl
theorem o658(a b:Nat):a+b<=16->a<=16:=zc [a,b] (.h (.le (.a v0 v1) (.k 16)) .z) (.le v0 (.k 16)) rfl
theorem o659(a b:Nat):a<=16->b<=16->a+b<100000:=zc [a,b] (.h (.le v0 (.k 16)) (.h (.le v1 (.k 16)) .z)) (.lt (.a v0 v1) (.k 100000)) rfl
theorem o660(a:Nat):a<=16->a<=100000:=zc [a] (.h (.le v0 (.k 16)) .z) (.le v0 (.k 100000)) rfl
theorem o661(a:Nat):a<=16->a<=1000:=zc [a] (.h (.le v0 (.k 16)) .z) (.le v0 (.k 1000)) rfl
theorem o662(a:Nat):a<=16->a<=500:=zc [a] (.h (.le v0 (.k 16)) .z) (.le v0 (.k 500)) rfl
theorem o663(a b:Nat):a<=b+1->b<=16->a<=500:=zc [a,b] (.h (.le v0 (.a v1 k1)) (.h (.le v1 (.k 16)) .z)) (.le v0 (.k 500)) rfl

theorem zY {p q:Prop} {G:Prop} (h:p/\q) (k:p->q->G):G:=k  h.1 h.2
theorem zh {p q r:Prop} {G:Prop} (h:p/\q/\r) (k:p->q->r->G):G:=k  h.1 h.2.1 h.2.2
theorem yL {p q r s:Prop} {G:Prop} (h:p/\q/\r/\s) (k:p->q->r->s->G):G:=k  h.1 h.2.1 h.2.2.1 h.2.2.2
theorem lY {p q r s t u v:Prop} {G:Prop} (h:p/\q/\r/\s/\t/\u/\v) (k:p->q->r->s->t->u->v->G):G:=k  h.1 h.2.1 h.2.2.1 h.2.2.2.1 h.2.2.2.2.1 h.2.2.2.2.2.1 h.2.2.2.2.2.2
theorem lZ {p q r s t u v w:Prop} {G:Prop} (h:p/\q/\r/\s/\t/\u/\v/\w) (k:p->q->r->s->t->u->v->w->G):G:=k  h.1 h.2.1 h.2.2.1 h.2.2.2.1 h.2.2.2.2.1 h.2.2.2.2.2.1 h.2.2.2.2.2.2.1 h.2.2.2.2.2.2.2
theorem yl {A:Type} {p:A->Prop} {G:Prop} (h:∃ a,p a) (k:∀ a,p a->G):G:=h.elim fun a h=>k a h
theorem za {A:Type} {p q:A->Prop} {G:Prop} (h:∃ a,p a/\q a) (k:∀ a,p a->q a->G):G:=h.elim fun a h=>k a h.1 h.2
theorem z0 {A:Type} {p q:A->Prop} (a:A) (h0:p a) (h1:q a):∃ a,p a/\q a:=⟨a,h0,h1⟩
theorem zm {A:Type} {p q r:A->Prop} {G:Prop} (h:∃ a,p a/\q a/\r a) (k:∀ a,p a->q a->r a->G):G:=h.elim fun a h=>k a h.1 h.2.1 h.2.2
theorem zt {A:Type} {p q r:A->Prop} (a:A) (h0:p a) (h1:q a) (h2:r a):∃ a,p a/\q a/\r a:=⟨a,h0,h1,h2⟩
theorem wc {A:Type} {p q r s:A->Prop} {G:Prop} (h:∃ a,p a/\q a/\r a/\s a) (k:∀ a,p a->q a->r a->s a->G):G:=h.elim fun a h=>k a h.1 h.2.1 h.2.2.1 h.2.2.2
theorem zN {A:Type} {p q r s:A->Prop} (a:A) (h0:p a) (h1:q a) (h2:r a) (h3:s a):∃ a,p a/\q a/\r a/\s a:=⟨a,h0,h1,h2,h3⟩
theorem rL {A:Type} {p q r s t:A->Prop} {G:Prop} (h:∃ a,p a/\q a/\r a/\s a/\t a) (k:∀ a,p a->q a->r a->s a->t a->G):G:=h.elim fun a h=>k a h.1 h.2.1 h.2.2.1 h.2.2.2.1 h.2.2.2.2
theorem xL {A:Type} {p q r s t:A->Prop} (a:A) (h0:p a) (h1:q a) (h2:r a) (h3:s a) (h4:t a):∃ a,p a/\q a/\r a/\s a/\t a:=⟨a,h0,h1,h2,h3,h4⟩
theorem nB {A:Type} {p q r s t u:A->Prop} {G:Prop} (h:∃ a,p a/\q a/\r a/\s a/\t a/\u a) (k:∀ a,p a->q a->r a->s a->t a->u a->G):G:=h.elim fun a h=>k a h.1 h.2.1 h.2.2.1 h.2.2.2.1 h.2.2.2.2.1 h.2.2.2.2.2
theorem tI {A:Type} {p q r s t u:A->Prop} (a:A) (h0:p a) (h1:q a) (h2:r a) (h3:s a) (h4:t a) (h5:u a):∃ a,p a/\q a/\r a/\s a/\t a/\u a:=⟨a,h0,h1,h2,h3,h4,h5⟩
theorem zL {A B:Type} {p:A->B->Prop} {G:Prop} (h:∃ a b,p a b) (k:∀ a b,p a b->G):G:=h.elim fun a h=>h.elim fun b h=>k a b h
theorem zZ {A B:Type} {p:A->B->Prop} (a:A) (b:B) (h0:p a b):∃ a b,p a b:=⟨a,b,h0⟩
theorem y6 {A B:Type} {p q:A->B->Prop} {G:Prop} (h:∃ a b,p a b/\q a b) (k:∀ a b,p a b->q a b->G):G:=h.elim fun a h=>h.elim fun b h=>k a b h.1 h.2
theorem zV {A B:Type} {p q:A->B->Prop} (a:A) (b:B) (h0:p a b) (h1:q a b):∃ a b,p a b/\q a b:=⟨a,b,h0,h1⟩
theorem zg {A B:Type} {p q r:A->B->Prop} {G:Prop} (h:∃ a b,p a b/\q a b/\r a b) (k:∀ a b,p a b->q a b->r a b->G):G:=h.elim fun a h=>h.elim fun b h=>k a b h.1 h.2.1 h.2.2
theorem zj {A B:Type} {p q r:A->B->Prop} (a:A) (b:B) (h0:p a b) (h1:q a b) (h2:r a b):∃ a b,p a b/\q a b/\r a b:=⟨a,b,h0,h1,h2⟩
theorem zM {A B:Type} {p q r s:A->B->Prop} {G:Prop} (h:∃ a b,p a b/\q a b/\r a b/\s a b) (k:∀ a b,p a b->q a b->r a b->s a b->G):G:=h.elim fun a h=>h.elim fun b h=>k a b h.1 h.2.1 h.2.2.1 h.2.2.2
theorem zH {A B:Type} {p q r s:A->B->Prop} (a:A) (b:B) (h0:p a b) (h1:q a b) (h2:r a b) (h3:s a b):∃ a b,p a b/\q a b/\r a b/\s a b:=⟨a,b,h0,h1,h2,h3⟩
theorem rM {A B:Type} {p q r s t:A->B->Prop} {G:Prop} (h:∃ a b,p a b/\q a b/\r a b/\s a b/\t a b) (k:∀ a b,p a b->q a b->r a b->s a b->t a b->G):G:=h.elim fun a h=>h.elim fun b h=>k a b h.1 h.2.1 h.2.2.1 h.2.2.2.1 h.2.2.2.2
theorem we {A B:Type} {p q r s t:A->B->Prop} (a:A) (b:B) (h0:p a b) (h1:q a b) (h2:r a b) (h3:s a b) (h4:t a b):∃ a b,p a b/\q a b/\r a b/\s a b/\t a b:=⟨a,b,h0,h1,h2,h3,h4⟩
theorem rN {A B:Type} {p q r s t u:A->B->Prop} {G:Prop} (h:∃ a b,p a b/\q a b/\r a b/\s a b/\t a b/\u a b) (k:∀ a b,p a b->q a b->r a b->s a b->t a b->u a b->G):G:=h.elim fun a h=>h.elim fun b h=>k a b h.1 h.2.1 h.2.2.1 h.2.2.2.1 h.2.2.2.2.1 h.2.2.2.2.2
theorem wf {A B:Type} {p q r s t u:A->B->Prop} (a:A) (b:B) (h0:p a b) (h1:q a b) (h2:r a b) (h3:s a b) (h4:t a b) (h5:u a b):∃ a b,p a b/\q a b/\r a b/\s a b/\t a b/\u a b:=⟨a,b,h0,h1,h2,h3,h4,h5⟩
theorem nC {A B:Type} {p q r s t u v:A->B->Prop} {G:Prop} (h:∃ a b,p a b/\q a b/\r a b/\s a b/\t a b/\u a b/\v a b) (k:∀ a b,p a b->q a b->r a b->s a b->t a b->u a b->v a b->G):G:=h.elim fun a h=>h.elim fun b h=>k a b h.1 h.2.1 h.2.2.1 h.2.2.2.1 h.2.2.2.2.1 h.2.2.2.2.2.1 h.2.2.2.2.2.2
theorem rO {A B:Type} {p q r s t u v:A->B->Prop} (a:A) (b:B) (h0:p a b) (h1:q a b) (h2:r a b) (h3:s a b) (h4:t a b) (h5:u a b) (h6:v a b):∃ a b,p a b/\q a b/\r a b/\s a b/\t a b/\u a b/\v a b:=⟨a,b,h0,h1,h2,h3,h4,h5,h6⟩
theorem k4 {A B:Type} {p q r s t u v w:A->B->Prop} {G:Prop} (h:∃ a b,p a b/\q a b/\r a b/\s a b/\t a b/\u a b/\v a b/\w a b) (k:∀ a b,p a b->q a b->r a b->s a b->t a b->u a b->v a b->w a b->G):G:=h.elim fun a h=>h.elim fun b h=>k a b h.1 h.2.1 h.2.2.1 h.2.2.2.1 h.2.2.2.2.1 h.2.2.2.2.2.1 h.2.2.2.2.2.2.1 h.2.2.2.2.2.2.2
theorem k7 {A B:Type} {p q r s t u v w:A->B->Prop} (a:A) (b:B) (h0:p a b) (h1:q a b) (h2:r a b) (h3:s a b) (h4:t a b) (h5:u a b) (h6:v a b) (h7:w a b):∃ a b,p a b/\q a b/\r a b/\s a b/\t a b/\u a b/\v a b/\w a b:=⟨a,b,h0,h1,h2,h3,h4,h5,h6,h7⟩
theorem yd {A B C:Type} {p q:A->B->C->Prop} {G:Prop} (h:∃ a b c,p a b c/\q a b c) (k:∀ a b c,p a b c->q a b c->G):G:=h.elim fun a h=>h.elim fun b h=>h.elim fun c h=>k a b c h.1 h.2
theorem xM {A B C:Type} {p q:A->B->C->Prop} (a:A) (b:B) (c:C) (h0:p a b c) (h1:q a b c):∃ a b c,p a b c/\q a b c:=⟨a,b,c,h0,h1⟩
theorem ym {A B C:Type} {p q r:A->B->C->Prop} {G:Prop} (h:∃ a b c,p a b c/\q a b c/\r a b c) (k:∀ a b c,p a b c->q a b c->r a b c->G):G:=h.elim fun a h=>h.elim fun b h=>h.elim fun c h=>k a b c h.1 h.2.1 h.2.2
theorem yn {A B C:Type} {p q r:A->B->C->Prop} (a:A) (b:B) (c:C) (h0:p a b c) (h1:q a b c) (h2:r a b c):∃ a b c,p a b c/\q a b c/\r a b c:=⟨a,b,c,h0,h1,h2⟩
theorem rP {A B C:Type} {p q r s:A->B->C->Prop} {G:Prop} (h:∃ a b c,p a b c/\q a b c/\r a b c/\s a b c) (k:∀ a b c,p a b c->q a b c->r a b c->s a b c->G):G:=h.elim fun a h=>h.elim fun b h=>h.elim fun c h=>k a b c h.1 h.2.1 h.2.2.1 h.2.2.2
theorem nD {A B C:Type} {p q r s:A->B->C->Prop} (a:A) (b:B) (c:C) (h0:p a b c) (h1:q a b c) (h2:r a b c) (h3:s a b c):∃ a b c,p a b c/\q a b c/\r a b c/\s a b c:=⟨a,b,c,h0,h1,h2,h3⟩
theorem k9 {A B C:Type} {p q r s t:A->B->C->Prop} {G:Prop} (h:∃ a b c,p a b c/\q a b c/\r a b c/\s a b c/\t a b c) (k:∀ a b c,p a b c->q a b c->r a b c->s a b c->t a b c->G):G:=h.elim fun a h=>h.elim fun b h=>h.elim fun c h=>k a b c h.1 h.2.1 h.2.2.1 h.2.2.2.1 h.2.2.2.2
theorem nE {A B C:Type} {p q r s t:A->B->C->Prop} (a:A) (b:B) (c:C) (h0:p a b c) (h1:q a b c) (h2:r a b c) (h3:s a b c) (h4:t a b c):∃ a b c,p a b c/\q a b c/\r a b c/\s a b c/\t a b c:=⟨a,b,c,h0,h1,h2,h3,h4⟩
theorem tJ {A B C:Type} {p q r s t u:A->B->C->Prop} {G:Prop} (h:∃ a b c,p a b c/\q a b c/\r a b c/\s a b c/\t a b c/\u a b c) (k:∀ a b c,p a b c->q a b c->r a b c->s a b c->t a b c->u a b c->G):G:=h.elim fun a h=>h.elim fun b h=>h.elim fun c h=>k a b c h.1 h.2.1 h.2.2.1 h.2.2.2.1 h.2.2.2.2.1 h.2.2.2.2.2
theorem xN {A B C:Type} {p q r s t u:A->B->C->Prop} (a:A) (b:B) (c:C) (h0:p a b c) (h1:q a b c) (h2:r a b c) (h3:s a b c) (h4:t a b c) (h5:u a b c):∃ a b c,p a b c/\q a b c/\r a b c/\s a b c/\t a b c/\u a b c:=⟨a,b,c,h0,h1,h2,h3,h4,h5⟩
theorem nF {A B C:Type} {p q r s t u v:A->B->C->Prop} {G:Prop} (h:∃ a b c,p a b c/\q a b c/\r a b c/\s a b c/\t a b c/\u a b c/\v a b c) (k:∀ a b c,p a b c->q a b c->r a b c->s a b c->t a b c->u a b c->v a b c->G):G:=h.elim fun a h=>h.elim fun b h=>h.elim fun c h=>k a b c h.1 h.2.1 h.2.2.1 h.2.2.2.1 h.2.2.2.2.1 h.2.2.2.2.2.1 h.2.2.2.2.2.2
theorem tK {A B C:Type} {p q r s t u v:A->B->C->Prop} (a:A) (b:B) (c:C) (h0:p a b c) (h1:q a b c) (h2:r a b c) (h3:s a b c) (h4:t a b c) (h5:u a b c) (h6:v a b c):∃ a b c,p a b c/\q a b c/\r a b c/\s a b c/\t a b c/\u a b c/\v a b c:=⟨a,b,c,h0,h1,h2,h3,h4,h5,h6⟩
theorem nG {A B C:Type} {p q r s t u v w:A->B->C->Prop} {G:Prop} (h:∃ a b c,p a b c/\q a b c/\r a b c/\s a b c/\t a b c/\u a b c/\v a b c/\w a b c) (k:∀ a b c,p a b c->q a b c->r a b c->s a b c->t a b c->u a b c->v a b c->w a b c->G):G:=h.elim fun a h=>h.elim fun b h=>h.elim fun c h=>k a b c h.1 h.2.1 h.2.2.1 h.2.2.2.1 h.2.2.2.2.1 h.2.2.2.2.2.1 h.2.2.2.2.2.2.1 h.2.2.2.2.2.2.2
theorem tL {A B C:Type} {p q r s t u v w:A->B->C->Prop} (a:A) (b:B) (c:C) (h0:p a b c) (h1:q a b c) (h2:r a b c) (h3:s a b c) (h4:t a b c) (h5:u a b c) (h6:v a b c) (h7:w a b c):∃ a b c,p a b c/\q a b c/\r a b c/\s a b c/\t a b c/\u a b c/\v a b c/\w a b c:=⟨a,b,c,h0,h1,h2,h3,h4,h5,h6,h7⟩
theorem mB {A B C:Type} {p q r s t u v w x y z P:A->B->C->Prop} {G:Prop} (h:∃ a b c,p a b c/\q a b c/\r a b c/\s a b c/\t a b c/\u a b c/\v a b c/\w a b c/\x a b c/\y a b c/\z a b c/\P a b c) (k:∀ a b c,p a b c->q a b c->r a b c->s a b c->t a b c->u a b c->v a b c->w a b c->x a b c->y a b c->z a b c->P a b c->G):G:=h.elim fun a h=>h.elim fun b h=>h.elim fun c h=>k a b c h.1 h.2.1 h.2.2.1 h.2.2.2.1 h.2.2.2.2.1 h.2.2.2.2.2.1 h.2.2.2.2.2.2.1 h.2.2.2.2.2.2.2.1 h.2.2.2.2.2.2.2.2.1 h.2.2.2.2.2.2.2.2.2.1 h.2.2.2.2.2.2.2.2.2.2.1 h.2.2.2.2.2.2.2.2.2.2.2
theorem rQ {A B C:Type} {p q r s t u v w x y z P:A->B->C->Prop} (a:A) (b:B) (c:C) (h0:p a b c) (h1:q a b c) (h2:r a b c) (h3:s a b c) (h4:t a b c) (h5:u a b c) (h6:v a b c) (h7:w a b c) (h8:x a b c) (h9:y a b c) (h10:z a b c) (h11:P a b c):∃ a b c,p a b c/\q a b c/\r a b c/\s a b c/\t a b c/\u a b c/\v a b c/\w a b c/\x a b c/\y a b c/\z a b c/\P a b c:=⟨a,b,c,h0,h1,h2,h3,h4,h5,h6,h7,h8,h9,h10,h11⟩
theorem x0 {A B C D:Type} {p q:A->B->C->D->Prop} {G:Prop} (h:∃ a b c d,p a b c d/\q a b c d) (k:∀ a b c d,p a b c d->q a b c d->G):G:=h.elim fun a h=>h.elim fun b h=>h.elim fun c h=>h.elim fun d h=>k a b c d h.1 h.2
theorem nH {A B C D:Type} {p q:A->B->C->D->Prop} (a:A) (b:B) (c:C) (d:D) (h0:p a b c d) (h1:q a b c d):∃ a b c d,p a b c d/\q a b c d:=⟨a,b,c,d,h0,h1⟩
theorem x5 {A B C D:Type} {p q r:A->B->C->D->Prop} {G:Prop} (h:∃ a b c d,p a b c d/\q a b c d/\r a b c d) (k:∀ a b c d,p a b c d->q a b c d->r a b c d->G):G:=h.elim fun a h=>h.elim fun b h=>h.elim fun c h=>h.elim fun d h=>k a b c d h.1 h.2.1 h.2.2
theorem wg {A B C D:Type} {p q r:A->B->C->D->Prop} (a:A) (b:B) (c:C) (d:D) (h0:p a b c d) (h1:q a b c d) (h2:r a b c d):∃ a b c d,p a b c d/\q a b c d/\r a b c d:=⟨a,b,c,d,h0,h1,h2⟩
theorem tM {A B C D:Type} {p q r s:A->B->C->D->Prop} {G:Prop} (h:∃ a b c d,p a b c d/\q a b c d/\r a b c d/\s a b c d) (k:∀ a b c d,p a b c d->q a b c d->r a b c d->s a b c d->G):G:=h.elim fun a h=>h.elim fun b h=>h.elim fun c h=>h.elim fun d h=>k a b c d h.1 h.2.1 h.2.2.1 h.2.2.2
theorem rR {A B C D:Type} {p q r s:A->B->C->D->Prop} (a:A) (b:B) (c:C) (d:D) (h0:p a b c d) (h1:q a b c d) (h2:r a b c d) (h3:s a b c d):∃ a b c d,p a b c d/\q a b c d/\r a b c d/\s a b c d:=⟨a,b,c,d,h0,h1,h2,h3⟩
theorem tN {A B C D:Type} {p q r s t:A->B->C->D->Prop} {G:Prop} (h:∃ a b c d,p a b c d/\q a b c d/\r a b c d/\s a b c d/\t a b c d) (k:∀ a b c d,p a b c d->q a b c d->r a b c d->s a b c d->t a b c d->G):G:=h.elim fun a h=>h.elim fun b h=>h.elim fun c h=>h.elim fun d h=>k a b c d h.1 h.2.1 h.2.2.1 h.2.2.2.1 h.2.2.2.2
theorem nI {A B C D:Type} {p q r s t:A->B->C->D->Prop} (a:A) (b:B) (c:C) (d:D) (h0:p a b c d) (h1:q a b c d) (h2:r a b c d) (h3:s a b c d) (h4:t a b c d):∃ a b c d,p a b c d/\q a b c d/\r a b c d/\s a b c d/\t a b c d:=⟨a,b,c,d,h0,h1,h2,h3,h4⟩
theorem rS {A B C D:Type} {p q r s t u:A->B->C->D->Prop} {G:Prop} (h:∃ a b c d,p a b c d/\q a b c d/\r a b c d/\s a b c d/\t a b c d/\u a b c d) (k:∀ a b c d,p a b c d->q a b c d->r a b c d->s a b c d->t a b c d->u a b c d->G):G:=h.elim fun a h=>h.elim fun b h=>h.elim fun c h=>h.elim fun d h=>k a b c d h.1 h.2.1 h.2.2.1 h.2.2.2.1 h.2.2.2.2.1 h.2.2.2.2.2
theorem vZ {A B C D:Type} {p q r s t u:A->B->C->D->Prop} (a:A) (b:B) (c:C) (d:D) (h0:p a b c d) (h1:q a b c d) (h2:r a b c d) (h3:s a b c d) (h4:t a b c d) (h5:u a b c d):∃ a b c d,p a b c d/\q a b c d/\r a b c d/\s a b c d/\t a b c d/\u a b c d:=⟨a,b,c,d,h0,h1,h2,h3,h4,h5⟩
theorem mC {A B C D:Type} {p q r s t u v w x y z:A->B->C->D->Prop} {G:Prop} (h:∃ a b c d,p a b c d/\q a b c d/\r a b c d/\s a b c d/\t a b c d/\u a b c d/\v a b c d/\w a b c d/\x a b c d/\y a b c d/\z a b c d) (k:∀ a b c d,p a b c d->q a b c d->r a b c d->s a b c d->t a b c d->u a b c d->v a b c d->w a b c d->x a b c d->y a b c d->z a b c d->G):G:=h.elim fun a h=>h.elim fun b h=>h.elim fun c h=>h.elim fun d h=>k a b c d h.1 h.2.1 h.2.2.1 h.2.2.2.1 h.2.2.2.2.1 h.2.2.2.2.2.1 h.2.2.2.2.2.2.1 h.2.2.2.2.2.2.2.1 h.2.2.2.2.2.2.2.2.1 h.2.2.2.2.2.2.2.2.2.1 h.2.2.2.2.2.2.2.2.2.2
theorem uN {A B C D:Type} {p q r s t u v w x y z:A->B->C->D->Prop} (a:A) (b:B) (c:C) (d:D) (h0:p a b c d) (h1:q a b c d) (h2:r a b c d) (h3:s a b c d) (h4:t a b c d) (h5:u a b c d) (h6:v a b c d) (h7:w a b c d) (h8:x a b c d) (h9:y a b c d) (h10:z a b c d):∃ a b c d,p a b c d/\q a b c d/\r a b c d/\s a b c d/\t a b c d/\u a b c d/\v a b c d/\w a b c d/\x a b c d/\y a b c d/\z a b c d:=⟨a,b,c,d,h0,h1,h2,h3,h4,h5,h6,h7,h8,h9,h10⟩
theorem ka {A B C D E:Type} {p q r:A->B->C->D->E->Prop} {G:Prop} (h:∃ a b c d e,p a b c d e/\q a b c d e/\r a b c d e) (k:∀ a b c d e,p a b c d e->q a b c d e->r a b c d e->G):G:=h.elim fun a h=>h.elim fun b h=>h.elim fun c h=>h.elim fun d h=>h.elim fun e h=>k a b c d e h.1 h.2.1 h.2.2
theorem wR {A B C D E:Type} {p q r s t u:A->B->C->D->E->Prop} {G:Prop} (h:∃ a b c d e,p a b c d e/\q a b c d e/\r a b c d e/\s a b c d e/\t a b c d e/\u a b c d e) (k:∀ a b c d e,p a b c d e->q a b c d e->r a b c d e->s a b c d e->t a b c d e->u a b c d e->G):G:=h.elim fun a h=>h.elim fun b h=>h.elim fun c h=>h.elim fun d h=>h.elim fun e h=>k a b c d e h.1 h.2.1 h.2.2.1 h.2.2.2.1 h.2.2.2.2.1 h.2.2.2.2.2
theorem rT {A B C D E:Type} {p q r s t u:A->B->C->D->E->Prop} (a:A) (b:B) (c:C) (d:D) (e:E) (h0:p a b c d e) (h1:q a b c d e) (h2:r a b c d e) (h3:s a b c d e) (h4:t a b c d e) (h5:u a b c d e):∃ a b c d e,p a b c d e/\q a b c d e/\r a b c d e/\s a b c d e/\t a b c d e/\u a b c d e:=⟨a,b,c,d,e,h0,h1,h2,h3,h4,h5⟩
theorem u0 {A B C D E:Type} {p q r s t u v w:A->B->C->D->E->Prop} {G:Prop} (h:∃ a b c d e,p a b c d e/\q a b c d e/\r a b c d e/\s a b c d e/\t a b c d e/\u a b c d e/\v a b c d e/\w a b c d e) (k:∀ a b c d e,p a b c d e->q a b c d e->r a b c d e->s a b c d e->t a b c d e->u a b c d e->v a b c d e->w a b c d e->G):G:=h.elim fun a h=>h.elim fun b h=>h.elim fun c h=>h.elim fun d h=>h.elim fun e h=>k a b c d e h.1 h.2.1 h.2.2.1 h.2.2.2.1 h.2.2.2.2.1 h.2.2.2.2.2.1 h.2.2.2.2.2.2.1 h.2.2.2.2.2.2.2
theorem u3 {A B C D E:Type} {p q r s t u v w:A->B->C->D->E->Prop} (a:A) (b:B) (c:C) (d:D) (e:E) (h0:p a b c d e) (h1:q a b c d e) (h2:r a b c d e) (h3:s a b c d e) (h4:t a b c d e) (h5:u a b c d e) (h6:v a b c d e) (h7:w a b c d e):∃ a b c d e,p a b c d e/\q a b c d e/\r a b c d e/\s a b c d e/\t a b c d e/\u a b c d e/\v a b c d e/\w a b c d e:=⟨a,b,c,d,e,h0,h1,h2,h3,h4,h5,h6,h7⟩
theorem nJ {A B C D E F H:Type} {p:A->B->C->D->E->F->H->Prop} {G:Prop} (h:∃ a b c d e f g,p a b c d e f g) (k:∀ a b c d e f g,p a b c d e f g->G):G:=h.elim fun a h=>h.elim fun b h=>h.elim fun c h=>h.elim fun d h=>h.elim fun e h=>h.elim fun f h=>h.elim fun g h=>k a b c d e f g h

inductive CV where
 | none
 | bool (b:Bool)
 | int (i:Int)
 | str (s:Str)
 | tup (xs:List CV)
 | ref (a:Addr)
 deriving Inhabited
noncomputable def pt (h:Heap) (a:Addr) (items:Array Value):Prop:=∃ n,h.get? a=some { cls:=.type "tuple",data:=.seq items n }
mutual
noncomputable def VR (h:Heap):CV->Value->Prop
 | .none,v=>v=.none
 | .bool b,v=>v=.bool b
 | .int i,v=>∃ t,v=.int i t
 | .str x,v=>∃ t,v=.str x t
 | .ref a,v=>v=.ref a
 | .tup xs,v=>∃ a items,v=.ref a/\pt h a items/\VRs h xs items.toList
noncomputable def VRs (h:Heap):List CV->List Value->Prop
 | [],vs=>vs=[]
 | c::cs,vs=>∃ v r,vs=v::r/\VR h c v/\VRs h cs r
end
noncomputable def zv (h h':Heap):Prop:=∀ a items,pt h a items->pt h' a items
mutual
theorem VR.mono {h h':Heap} (k:zv h h'):∀ {c:CV} {v:Value},VR h c v->VR h' c v
 | .none,_,x=>x
 | .bool _,_,x=>x
 | .int _,_,x=>x
 | .str _,_,x=>x
 | .ref _,_,x=>x
 | .tup xs,v,x=>by
  refine zg (x) ?_;intro a items e t r
  exact (zj a items e (k _ _ t) (VRs.mono k r))
theorem VRs.mono {h h':Heap} (k:zv h h'):∀ {cs:List CV} {vs:List Value},VRs h cs vs->VRs h' cs vs
 | [],_,x=>x
 | c::cs,vs,x=>by
  refine zg (x) ?_;intro v r e a b
  exact (zj v r e (VR.mono k a) (VRs.mono k b))
end
theorem VRs.nil_iff {h:Heap} {vs:List Value}:VRs h [] vs↔vs=[]:=Iff.rfl
theorem VRs.nil {h:Heap}:VRs h [] []:=rfl
theorem VRs.cons {h:Heap} {c:CV} {cs:List CV} {v:Value} {vs:List Value} (a:VR h c v) (b:VRs h cs vs):VRs h (c::cs) (v::vs):=⟨v,vs,rfl,a,b⟩
theorem VRs.inv {h:Heap} {c:CV} {cs:List CV} {vs:List Value} (x:VRs h (c::cs) vs):∃ v r,vs=v::r/\VR h c v/\VRs h cs r:=x
theorem VRs.length {h:Heap}:∀ {cs:List CV} {vs:List Value},VRs h cs vs->vs.length=cs.length
 | [],vs,x=>by obtain rfl:=x;rfl
 | c::cs,vs,x=>by
  refine zg (x.inv) ?_;intro v r q1 _ b;obtain rfl:=q1
  simp only [List.length_cons,b.length]
theorem VRs.append {h:Heap}:∀ {cs cs':List CV} {vs vs':List Value},VRs h cs vs->VRs h cs' vs'->VRs h (cs++cs') (vs++vs')
 | [],_,vs,_,x,y=>by obtain rfl:=x;exact y
 | c::cs,_,vs,_,x,y=>by
  refine zg (x.inv) ?_;intro v r q2 a b;obtain rfl:=q2
  exact .cons a (b.append y)
theorem VRs.get {h:Heap}:∀ {cs:List CV} {vs:List Value} {i:Nat} {c:CV},VRs h cs vs->cs[i]?=some c->∃ v,vs[i]?=some v/\VR h c v
 | [],_,_,_,_,e=>by simp at e
 | c::cs,vs,i,d,x,e=>by
  refine zg (x.inv) ?_;intro v r q3 a b;obtain rfl:=q3
  cases i with
  | zero=>simp only [List.getElem?_cons_zero,Option.some.injEq] at e ⊢;subst e;exact (z0 v rfl a)
  | succ i=>simp only [List.getElem?_cons_succ] at e ⊢;exact b.get e
theorem VRs.drop {h:Heap}:∀ {cs:List CV} {vs:List Value} (n:Nat),VRs h cs vs->VRs h (cs.drop n) (vs.drop n)
 | [],vs,n,x=>by obtain rfl:=x;cases n <;> rfl
 | c::cs,vs,n,x=>by
  refine zg (x.inv) ?_;intro v r q4 a b;obtain rfl:=q4
  cases n with
  | zero=>exact VRs.cons a b
  | succ n=>exact b.drop n
theorem VRs.take {h:Heap}:∀ {cs:List CV} {vs:List Value} (n:Nat),VRs h cs vs->VRs h (cs.take n) (vs.take n)
 | [],vs,n,x=>by obtain rfl:=x;cases n <;> rfl
 | c::cs,vs,n,x=>by
  refine zg (x.inv) ?_;intro v r q5 a b;obtain rfl:=q5
  cases n with
  | zero=>exact VRs.nil
  | succ n=>exact VRs.cons a (b.take n)
theorem VRs.set {h:Heap}:∀ {cs:List CV} {vs:List Value} (i:Nat) {c:CV} {v:Value},VRs h cs vs->VR h c v->VRs h (cs.set i c) (vs.set i v)
 | [],vs,n,_,_,x,_=>by obtain rfl:=x;exact VRs.nil
 | c::cs,vs,n,d,w,x,y=>by
  refine zg (x.inv) ?_;intro v r q6 a b;obtain rfl:=q6
  cases n with
  | zero=>exact VRs.cons y b
  | succ n=>exact VRs.cons a (b.set n y)
theorem VRs.reverse {h:Heap}:∀ {cs:List CV} {vs:List Value},VRs h cs vs->VRs h cs.reverse vs.reverse
 | [],vs,x=>by obtain rfl:=x;exact VRs.nil
 | c::cs,vs,x=>by
  refine zg (x.inv) ?_;intro v r q7 a b;obtain rfl:=q7
  rw [List.reverse_cons,List.reverse_cons];exact b.reverse.append (VRs.cons a VRs.nil)
theorem VRs.replicate {h:Heap} {c:CV} {v:Value} (a:VR h c v):∀ n,VRs h (List.replicate n c) (List.replicate n v)
 | 0=>VRs.nil
 | n+1=>VRs.cons a (VRs.replicate a n)
inductive CO where
 | list (xs:List CV)
 | sdict (es:List (Str × CV)) (ep:Nat)
 | idict (es:List (Int × CV)) (ep:Nat)
 | inst (C dx:Addr)
 | attrs (es:List (Str × CV))
noncomputable abbrev Sto:=Addr->Option CO
noncomputable abbrev Loc:=List (Str × CV)
structure Cx where
 prog:Program
 w:World
 K:Frag
 base:Heap
 p:Program
 loose:List Str
 mg:Str->Option Value
 mb:Str->Option Value
 os:OsState
 X:K.In base
 T:TopRead p loose mg mb base
noncomputable def fnd (es:List DictEntry) (name:Str):Option Value:=(es.find? fun e=>e.key.isStr name).map (·.val)
structure AttrsRel (h:Heap) (es:List DictEntry) (fs:List (Str × CV)):Prop where
 plain:(es.any fun e=>e.refKey)=false
 at_:∀ name:Str,match fs.lookup name with
  | some cv=>∃ v,fnd es name=some v/\VR h cv v
  | none=>fnd es name=none
noncomputable def PairRel (h:Heap) {K:Type}:List (K × CV)->List (K × Value)->Prop
 | [],kvs=>kvs=[]
 | e::es,kvs=>∃ kv r,kvs=kv::r/\kv.1=e.1/\VR h e.2 kv.2/\PairRel h es r
noncomputable def Rep (c:Cx) (h:Heap) (a:Addr):CO->Prop
 | .list xs=>∃ items,h.PlainList a items/\VRs h xs items.toList/\xs.length<=100000
 | .sdict es ep=>∃ kvs,h.DictAt (strKind c.prog c.w) a kvs ep/\PairRel h es kvs/\es.length<=100000
 | .idict es ep=>∃ kvs,h.DictAt (intKind c.prog c.w) a kvs ep/\PairRel h es kvs/\es.length<=100000
 | .inst C dx=>h.get? a=some (instObj C dx)
 | .attrs fs=>∃ es n,h.get? a=some (dictOf es n)/\AttrsRel h es fs/\es.length<=fs.length
noncomputable def rU (h:Heap) (a:Addr):Prop:=∀ items,¬ pt h a items
theorem PairRel.mono {h h':Heap} {K:Type} (k:zv h h'):∀ {es:List (K × CV)} {kvs:List (K × Value)},PairRel h es kvs->PairRel h' es kvs
 | [],_,x=>x
 | e::es,kvs,x=>by
  refine zM (x) ?_;intro kv r e1 e2 e3 e4
  exact (zH kv r e1 e2 (VR.mono k e3) (PairRel.mono k e4))
theorem AttrsRel.mono {h h':Heap} (k:zv h h') {es:List DictEntry} {fs:List (Str × CV)} (x:AttrsRel h es fs):AttrsRel h' es fs:=by
 refine ⟨x.plain,fun name=>?_⟩
 have:=x.at_ name
 split at this
 ·rename_i cv _;refine za (this) ?_;intro v a b;exact (z0 v a (VR.mono k b))
 ·exact this
theorem u4 {prog:Program} {w:World} {K:Type} [DecidableEq K] {knd:PySem.KeyKind prog w K} {h h':Heap} {a:Addr} {kvs:List (K × Value)} {ep:Nat} (x:h.DictAt knd a kvs ep) (e:∀ o,h.get? a=some o->h'.get? a=some o):h'.DictAt knd a kvs ep :=
 y6 (x) fun o es ho r=>(zV o es (e _ ho) r)
theorem Rep.mono {c:Cx} {h h':Heap} {a:Addr} {co:CO} (k:zv h h') (e:∀ o,h.get? a=some o->h'.get? a=some o) (x:Rep c h a co):Rep c h' a co:=by
 cases co with
 | list xs=>refine zm (x) ?_;intro items p r z;exact (zt items (p.at e) (r.mono k) z)
 | sdict es ep=>refine zm (x) ?_;intro kvs p r z;exact (zt kvs (u4 p e) (r.mono k) z)
 | idict es ep=>refine zm (x) ?_;intro kvs p r z;exact (zt kvs (u4 p e) (r.mono k) z)
 | inst C dx=>exact e _ x
 | attrs fs=>refine zg (x) ?_;intro es n p r z;exact (zj es n (e _ p) (r.mono k) z)
theorem Rep.there {c:Cx} {h:Heap} {a:Addr} {co:CO} (x:Rep c h a co):∃ o,h.get? a=some o:=by
 cases co with
 | list xs=>refine zm (x) ?_;intro items q8 r z;obtain ⟨n,p⟩:=q8;exact ⟨_,p⟩
 | sdict es ep=>refine zm (x) ?_;intro kvs q9 r z;refine y6 (q9) ?_;intro o _ p _;exact ⟨_,p⟩
 | idict es ep=>refine zm (x) ?_;intro kvs q10 r z;refine y6 (q10) ?_;intro o _ p _;exact ⟨_,p⟩
 | inst C dx=>exact ⟨_,x⟩
 | attrs fs=>refine zg (x) ?_;intro es n p r z;exact ⟨_,p⟩
theorem Rep.notTup {c:Cx} {h:Heap} {a:Addr} {co:CO} (x:Rep c h a co):rU h a:=by
 intro items z1;obtain ⟨n,ho⟩:=z1
 cases co with
 | list xs=>refine zm (x) ?_;intro items q11 r z;obtain ⟨n,p⟩:=q11;rw [ho] at p;exact absurd p (by simp)
 | sdict es ep=>refine zm (x) ?_;intro kvs q12 r z;refine zM (q12) ?_;intro o' _ p q d _;rw [ho] at p;cases p;cases d
 | idict es ep=>refine zm (x) ?_;intro kvs q13 r z;refine zM (q13) ?_;intro o' _ p q d _;rw [ho] at p;cases p;cases d
 | inst C dx=>have p:h.get? a=some (instObj C dx):=x;rw [ho] at p;cases p
 | attrs fs=>refine zg (x) ?_;intro es n p r z;rw [ho] at p;exact absurd p (by simp)
structure SG (c:Cx) (σ:Sto) (s:Shared):Prop where
 base:∀ b o,c.base.get? b=some o->s.heap.get? b=some o
 rep:∀ a co,σ a=some co->Rep c s.heap a co
 fresh:∀ a co,σ a=some co->c.base.get? a=none
 low:∀ a co,σ a=some co->(a==sysModules)=false
 gens:s.gens=#[]
 os:s.os=c.os
noncomputable def Keep (σ:Sto) (own:List Addr) (h h':Heap) (σ':Sto):Prop :=
 ∀ b o,h.get? b=some o->σ b=none->b∉own->h'.get? b=some o/\σ' b=none
theorem Keep.refl (σ:Sto) (own:List Addr) (h:Heap):Keep σ own h h σ:=fun _ _ e n _=>⟨e,n⟩
theorem Keep.trans {σ σ₁ σ₂:Sto} {own:List Addr} {h h₁ h₂:Heap} (x:Keep σ own h h₁ σ₁) (y:Keep σ₁ own h₁ h₂ σ₂):Keep σ own h h₂ σ₂ :=
 fun b o e n hb=>zY (x b o e n hb) fun e₁ n₁=>y b o e₁ n₁ hb
theorem Keep.own {σ σ₁:Sto} {own own':List Addr} {h h₁:Heap} (x:Keep σ own h h₁ σ₁) (hs:∀ a∈own,a∈own'):Keep σ own' h h₁ σ₁ :=
 fun b o e n hb=>x b o e n fun z=>hb (hs _ z)
structure FR (c:Cx) (env:Env) (own:List Addr) (ρ:Loc) (σ:Sto) (h:Heap):Prop where
 kind:env.scope.kind=.function
 glob:env.globals=mainGlobals
 built:env.builtins=builtinsNs
 ns:∃ m,h.Ns env.locals m/\∀ x cv,ρ.lookup x=some cv->env.kindOf x=some .local->∃ v,m x=some v/\VR h cv v
 cell:∀ x cv,ρ.lookup x=some cv->env.kindOf x≠some .local->∃ a v,env.cells.lookup x=some a/\h.IsCell a (some v)/\VR h cv v
 alive:∀ x a,env.cells.lookup x=some a->σ a=none/\∃ v₀,h.IsCell a v₀
 apart:∀ x y a,env.cells.lookup x=some a->env.cells.lookup y=some a->x=y
 lown:env.locals∈own
 ownok:∀ a∈own,σ a=none/\c.base.get? a=none/\∃ o,h.get? a=some o/\∀ its n,o.data≠.seq its n
theorem SG.tup {c:Cx} {σ:Sto} {s:Shared} (G:SG c σ s) {a:Addr} {items:Array Value} (t:pt s.heap a items):σ a=none:=by
 cases e:σ a with
 | none=>rfl
 | some co=>exact absurd t ((G.rep a co e).notTup items)
theorem SG.stay {c:Cx} {σ σ':Sto} {s:Shared} {h':Heap} (G:SG c σ s) (K:Keep σ [] s.heap h' σ'):zv s.heap h' :=
 fun a items t=>yl (t) fun k ho=>⟨k,(K a _ ho (G.tup t) (by simp)).1⟩
theorem SG.stayF {c:Cx} {σ σ':Sto} {s:Shared} {h':Heap} {env:Env} {own:List Addr} {ρ:Loc} (G:SG c σ s) (F:FR c env own ρ σ s.heap) (K:Keep σ own s.heap h' σ'):zv s.heap h' :=
 fun a items t=>yl (t) fun k ho=>⟨k,(K a _ ho (G.tup t) (fun hm=>by
  refine zh (F.ownok a hm) ?_;intro _ _ q14;refine za (q14) ?_;intro o' ho' hd
  rw [ho] at ho';cases ho'
  exact hd _ _ rfl)).1⟩
theorem FR.step {c:Cx} {σ σ':Sto} {h h':Heap} {env:Env} {own:List Addr} {ρ:Loc} (F:FR c env own ρ σ h) (T:zv h h') (K:Keep σ [] h h' σ'):FR c env own ρ σ' h':=by
 have hk:∀ a∈own,∀ o,h.get? a=some o->h'.get? a=some o:=fun a ha o e=>(K a o e (F.ownok a ha).1 (by simp)).1
 have hc:∀ x a,env.cells.lookup x=some a->∀ v,h.IsCell a v->h'.IsCell a v:=fun x a hx v q15=>za q15 fun o ho d=>(z0 o ((K a o ho (F.alive x a hx).1 (by simp)).1) d)
 refine ⟨F.kind,F.glob,F.built,?_,?_,?_,F.apart,F.lown,?_⟩
 ·refine za (F.ns) ?_;intro m hn hm
  refine (z0 m (hn.at fun o e=>hk _ F.lown o e) (fun x cv a b=>?_))
  refine za (hm x cv a b) ?_;intro v q r
  exact (z0 v q (r.mono T))
 ·intro x cv a b
  refine zg (F.cell x cv a b) ?_;intro ad v q r t
  exact (zj ad v q (hc x ad q _ r) (t.mono T))
 ·intro x a hx
  obtain ⟨n,v₀,q⟩:=F.alive x a hx
  refine za (q) ?_;intro o ho d
  exact ⟨(K a o ho n (by simp)).2,v₀,hc x a hx _ (z0 o ho d)⟩
 ·intro a ha
  refine zh (F.ownok a ha) ?_;intro n b q17;refine za (q17) ?_;intro o ho d
  exact ⟨(K a o ho n (by simp)).2,b,(z0 o (hk a ha o ho) d)⟩
structure Room (n:Nat) (A:Around):Prop where
 handled:A.handled=none
 depth:A.depth+4*n<900
 units:A.units+30*n<9000
theorem Room.le {n m:Nat} {A:Around} (h:Room n A) (hm:m<=n):Room m A:=⟨h.handled,by have:=h.depth;exact o0 _ _ _ this hm,by have:=h.units;exact o1 _ _ _ this hm⟩
noncomputable abbrev Ef:Value->Shared->Prop:=fun _ _=>False
inductive PE {α γ:Type} (c:Cx) (env:Env) (own:List Addr) (R:Heap->γ->α->Prop) (Q:γ->Loc->Sto->Prop) (σ:Sto) (s:Shared) (a:α) (s':Shared):Prop
 | mk (g:γ) (ρ':Loc) (σ':Sto) (r:R s'.heap g a) (G:SG c σ' s') (F:FR c env own ρ' σ' s'.heap) (K:Keep σ own s.heap s'.heap σ') (q:Q g ρ' σ')
inductive PG {α γ:Type} (c:Cx) (R:Heap->γ->α->Prop) (Q:γ->Sto->Prop) (σ:Sto) (s:Shared) (a:α) (s':Shared):Prop
 | mk (g:γ) (σ':Sto) (r:R s'.heap g a) (G:SG c σ' s') (K:Keep σ [] s.heap s'.heap σ') (q:Q g σ')
structure W {α γ:Type} (c:Cx) (n:Nat) (env:Env) (own:List Addr) (R:Heap->γ->α->Prop) (t:Sem α) (Q:γ->Loc->Sto->Prop) (ρ:Loc) (σ:Sto):Prop where
 go:∀ A s,Room n A->SG c σ s->FR c env own ρ σ s.heap->wpAny (model c.prog c.w) A t (PE c env own R Q σ s) Ef s
structure OW {α γ:Type} (c:Cx) (n:Nat) (R:Heap->γ->α->Prop) (args:List CV) (f:List Value->Sem α) (Q:γ->Sto->Prop) (σ:Sto):Prop where
 go:∀ A s vals,Room n A->SG c σ s->VRs s.heap args vals->wpAny (model c.prog c.w) A (f vals) (PG c R Q σ s) Ef s
noncomputable abbrev WE (c:Cx) (n:Nat) (env:Env) (own:List Addr) (e:Expr) (Q:CV->Sto->Prop) (ρ:Loc) (σ:Sto):Prop :=
 W c n env own VR (eval e env) (fun v ρ' σ'=>ρ'=ρ/\Q v σ') ρ σ
noncomputable def BR (_:Heap) (b:Bool) (v:Bool):Prop:=v=b
noncomputable abbrev WB (c:Cx) (n:Nat) (env:Env) (own:List Addr) (e:Expr) (Q:Bool->Sto->Prop) (ρ:Loc) (σ:Sto):Prop :=
 W c n env own BR (isTrue e env (eval e env)) (fun v ρ' σ'=>ρ'=ρ/\Q v σ') ρ σ
inductive CF where
 | next | brk | cont
 | ret (v:CV)
noncomputable def FlR (h:Heap):CF->Flow->Prop
 | .next,f=>f=.next
 | .brk,f=>f=.brk
 | .cont,f=>f=.cont
 | .ret v,f=>∃ w,f=.ret w/\VR h v w
noncomputable abbrev WS (c:Cx) (n:Nat) (env:Env) (own:List Addr) (st:Stmt) (Q:CF->Loc->Sto->Prop) (ρ:Loc) (σ:Sto):Prop :=
 W c n env own FlR (exec st env) Q ρ σ
noncomputable abbrev WSS (c:Cx) (n:Nat) (env:Env) (own:List Addr) (st:List Stmt) (Q:CF->Loc->Sto->Prop) (ρ:Loc) (σ:Sto):Prop :=
 W c n env own FlR (execs st env) Q ρ σ
noncomputable def UR (_:Heap) (_:Unit) (_:Unit):Prop:=True
theorem W.op {α γ:Type} {c:Cx} {n:Nat} {env:Env} {own:List Addr} {R:Heap->γ->α->Prop} {args:List CV} {f:List Value->Sem α} {Q:γ->Sto->Prop} {ρ:Loc} {σ:Sto} (h:OW c n R args f Q σ)
  {A:Around} {s:Shared} {vals:List Value} (hR:Room n A) (G:SG c σ s) (F:FR c env own ρ σ s.heap) (V:VRs s.heap args vals) :
  wpAny (model c.prog c.w) A (f vals) (PE c env own R (fun g ρ' σ'=>ρ'=ρ/\Q g σ') σ s) Ef s :=
 wpAny_mono (h.go A s vals hR G V) (fun a s' ⟨g,σ',r,G',K,q⟩=>⟨g,ρ,σ',r,G',F.step (G.stay K) K,K.own (by simp),rfl,q⟩) fun _ _ x=>x
theorem W.mono {α γ:Type} {c:Cx} {n:Nat} {env:Env} {own:List Addr} {R:Heap->γ->α->Prop} {t:Sem α} {Q Q':γ->Loc->Sto->Prop} {ρ:Loc} {σ:Sto} (h:W c n env own R t Q ρ σ) (hq:∀ g ρ' σ',Q g ρ' σ'->Q' g ρ' σ'):W c n env own R t Q' ρ σ :=
 .mk fun A s a b d=>wpAny_mono (h.go A s a b d) (fun _ _ ⟨g,ρ',σ',r,G',F',K,q⟩=>⟨g,ρ',σ',r,G',F',K,hq _ _ _ q⟩) fun _ _ x=>x
theorem wgo {α γ:Type} {c:Cx} {env:Env} {own:List Addr} {R:Heap->γ->α->Prop} {Q:γ->Loc->Sto->Prop} {σ:Sto} {s₀ s:Shared} {A:Around} {t:Sem α} {P:α->Shared->Prop} {E:Value->Shared->Prop} (h:wpAny (model c.prog c.w) A t (PE c env own R Q σ s₀) Ef s)
  (k:∀ a s' g ρ' σ',R s'.heap g a->SG c σ' s'->FR c env own ρ' σ' s'.heap->Keep σ own s₀.heap s'.heap σ'->Q g ρ' σ'->P a s'):wpAny (model c.prog c.w) A t P E s :=
 wpAny_mono h (fun a s' x=>x.casesOn (k a s')) fun _ _ x=>x.elim
theorem jK {α γ:Type} {c:Cx} {env:Env} {own:List Addr} {R:Heap->γ->α->Prop} {Q:γ->Sto->Prop} {ρ:Loc} {σ:Sto} {s₀ s:Shared} {A:Around} {t:Sem α} {P:α->Shared->Prop} {E:Value->Shared->Prop} (h:wpAny (model c.prog c.w) A t (PE c env own R (fun g ρ' σ'=>ρ'=ρ/\Q g σ') σ s₀) Ef s)
  (k:∀ a s' g σ',R s'.heap g a->SG c σ' s'->FR c env own ρ σ' s'.heap->Keep σ own s₀.heap s'.heap σ'->Q g σ'->P a s'):wpAny (model c.prog c.w) A t P E s :=
 wgo h fun a s' g ρ' σ' r G F K q=>k a s' g σ' r G (q.1 ▸ F) K q.2
theorem W.on {α γ:Type} {c:Cx} {n:Nat} {env:Env} {own:List Addr} {R:Heap->γ->α->Prop} {t:Sem α} {Q:γ->Loc->Sto->Prop} {ρ:Loc} {σ:Sto} {s:Shared} {A:Around} {P:α->Shared->Prop} {E:Value->Shared->Prop} (h:W c n env own R t Q ρ σ) (hR:Room n A) (G:SG c σ s) (F:FR c env own ρ σ s.heap)
  (k:∀ a s' g ρ' σ',R s'.heap g a->SG c σ' s'->FR c env own ρ' σ' s'.heap->Keep σ own s.heap s'.heap σ'->Q g ρ' σ'->P a s'):wpAny (model c.prog c.w) A t P E s:=wgo (h.go A s hR G F) k
theorem W.on0 {α γ:Type} {c:Cx} {n:Nat} {env:Env} {own:List Addr} {R:Heap->γ->α->Prop} {t:Sem α} {Q:γ->Sto->Prop} {ρ ρ0:Loc} {σ:Sto} {s:Shared} {A:Around} {P:α->Shared->Prop} {E:Value->Shared->Prop} (h:W c n env own R t (fun g ρ' σ'=>ρ'=ρ0/\Q g σ') ρ σ) (hR:Room n A) (G:SG c σ s) (F:FR c env own ρ σ s.heap)
  (k:∀ a s' g σ',R s'.heap g a->SG c σ' s'->FR c env own ρ0 σ' s'.heap->Keep σ own s.heap s'.heap σ'->Q g σ'->P a s'):wpAny (model c.prog c.w) A t P E s:=jK (h.go A s hR G F) k
theorem PE.trans {α γ:Type} {c:Cx} {env:Env} {own:List Addr} {R:Heap->γ->α->Prop} {Q:γ->Loc->Sto->Prop} {σ σ₁:Sto} {s s₁:Shared} {a:α} {s':Shared} (K:Keep σ own s.heap s₁.heap σ₁) (x:PE c env own R Q σ₁ s₁ a s'):PE c env own R Q σ s a s' :=
 let ⟨g,ρ',σ',r,G',F',K',q⟩:=x;⟨g,ρ',σ',r,G',F',K.trans K',q⟩
theorem PG.trans {α γ:Type} {c:Cx} {R:Heap->γ->α->Prop} {Q:γ->Sto->Prop} {σ σ₁:Sto} {s s₁:Shared} {a:α} {s':Shared} (K:Keep σ [] s.heap s₁.heap σ₁) (x:PG c R Q σ₁ s₁ a s'):PG c R Q σ s a s' :=
 let ⟨g,σ',r,G',K',q⟩:=x;⟨g,σ',r,G',K.trans K',q⟩
theorem SG.toks {c:Cx} {σ:Sto} {s:Shared} (G:SG c σ s) (t:Nat):SG c σ { s with toks:=t }:=⟨G.base,G.rep,G.fresh,G.low,G.gens,G.os⟩
theorem PG.same {α γ:Type} {c:Cx} {R:Heap->γ->α->Prop} {Q:γ->Sto->Prop} {σ:Sto} {s:Shared} {a:α} {t:Nat} {g:γ} (G:SG c σ s) (r:R s.heap g a) (q:Q g σ):PG c R Q σ s a { s with toks:=t } :=
 ⟨g,σ,r,G.toks t,Keep.refl _ _ _,q⟩
theorem PG.same0 {α γ:Type} {c:Cx} {R:Heap->γ->α->Prop} {Q:γ->Sto->Prop} {σ:Sto} {s:Shared} {a:α} {g:γ} (G:SG c σ s) (r:R s.heap g a) (q:Q g σ):PG c R Q σ s a s :=
 ⟨g,σ,r,G,Keep.refl _ _ _,q⟩

section
variable {c:Cx} {n:Nat} {env:Env} {own:List Addr} {ρ:Loc} {σ:Sto} {Q:CV->Sto->Prop}
theorem PE.ofE {c:Cx} {α γ:Type} {env:Env} {own:List Addr} {R:Heap->γ->α->Prop} {Q:γ->Loc->Sto->Prop} {ρ:Loc} {σ:Sto} {s:Shared} {t:Nat} {a:α} {g:γ} (G:SG c σ s) (F:FR c env own ρ σ s.heap) (r:R s.heap g a) (q:Q g ρ σ) :
  PE c env own R Q σ s a { s with toks:=t }:=⟨g,ρ,σ,r,G.toks t,F,Keep.refl _ _ _,q⟩
theorem PE.ofE0 {c:Cx} {α γ:Type} {env:Env} {own:List Addr} {R:Heap->γ->α->Prop} {Q:γ->Loc->Sto->Prop} {ρ:Loc} {σ:Sto} {s:Shared} {a:α} {g:γ} (G:SG c σ s) (F:FR c env own ρ σ s.heap) (r:R s.heap g a) (q:Q g ρ σ) :
  PE c env own R Q σ s a s:=⟨g,ρ,σ,r,G,F,Keep.refl _ _ _,q⟩
theorem jL {k pos} (h:Q .none σ):WE c n env own (.Constant .none k pos) Q ρ σ :=
 .mk fun _ _ _ G F=>wpAny_Constant_none (PE.ofE0 G F (g:=CV.none) rfl ⟨rfl,h⟩)
theorem jM {b k pos} (h:Q (.bool b) σ):WE c n env own (.Constant (.bool b) k pos) Q ρ σ :=
 .mk fun _ _ _ G F=>wpAny_Constant_bool (PE.ofE0 G F (g:=CV.bool b) rfl ⟨rfl,h⟩)
theorem gs {i k pos} (h:Q (.int i) σ):WE c n env own (.Constant (.int i) k pos) Q ρ σ :=
 .mk fun _ _ _ G F=>wpAny_Constant_int (PE.ofE G F (g:=CV.int i) ⟨_,rfl⟩ ⟨rfl,h⟩)
theorem gt {x:Str} {k pos} (h:Q (.str x) σ):WE c n env own (.Constant (.str x) k pos) Q ρ σ :=
 .mk fun _ _ _ G F=>wpAny_Constant_str (PE.ofE G F (g:=CV.str x) ⟨_,rfl⟩ ⟨rfl,h⟩)
theorem rV {x:Str} {v:CV} {A:Around} {s:Shared} {P:Value->Shared->Prop} {E:Value->Shared->Prop} (F:FR c env own ρ σ s.heap) (hv:ρ.lookup x=some v) (hk:env.kindOf x=some .local)
  (h:∀ w,VR s.heap v w->P w s):wpAny (model c.prog c.w) A (loadName env x) P E s:=by
 refine za (F.ns) ?_;intro m hn hm
 refine za (hm x v hv hk) ?_;intro w hw r
 exact wpAny_loadName_local F.kind hk hn hw (h w r)
theorem pC {x:Str} {v:CV} {A:Around} {s:Shared} {P:Value->Shared->Prop} {E:Value->Shared->Prop} (F:FR c env own ρ σ s.heap) (hv:ρ.lookup x=some v) (hk:env.kindOf x=some .cell)
  (h:∀ w,VR s.heap v w->P w s):wpAny (model c.prog c.w) A (loadName env x) P E s:=by
 refine zg (F.cell x v hv (by rw [hk];decide)) ?_;intro a w hc hw r
 exact wpAny_loadName_cell F.kind hk hc hw (h w r)
theorem pD {x:Str} {v:CV} {A:Around} {s:Shared} {P:Value->Shared->Prop} {E:Value->Shared->Prop} (F:FR c env own ρ σ s.heap) (hv:ρ.lookup x=some v) (hk:env.kindOf x=some .free)
  (h:∀ w,VR s.heap v w->P w s) (hn:(x==("__classdict__":Str))=false):wpAny (model c.prog c.w) A (loadName env x) P E s:=by
 refine zg (F.cell x v hv (by rw [hk];decide)) ?_;intro a w hc hw r
 exact wpAny_loadName_free F.kind hk hc hw (h w r) hn
theorem wh {x:Str} {pos:Pos} {v:CV} (hk:env.kindOf x=some .local) (hv:ρ.lookup x=some v) (h:Q v σ) (hd:(x==("__debug__":Str))=false):WE c n env own (.Name x pos) Q ρ σ :=
 .mk fun _ _ _ G F=>wpAny_Name (rV F hv hk fun w r=>PE.ofE0 G F r ⟨rfl,h⟩) hd
theorem jN {x:Str} {pos:Pos} {v:CV} (hk:env.kindOf x=some .cell) (hv:ρ.lookup x=some v) (h:Q v σ) (hd:(x==("__debug__":Str))=false):WE c n env own (.Name x pos) Q ρ σ :=
 .mk fun _ _ _ G F=>wpAny_Name (pC F hv hk fun w r=>PE.ofE0 G F r ⟨rfl,h⟩) hd
theorem jO {x:Str} {pos:Pos} {v:CV} (hk:env.kindOf x=some .free) (hv:ρ.lookup x=some v) (h:Q v σ) (hd:(x==("__debug__":Str))=false) (hn:(x==("__classdict__":Str))=false):WE c n env own (.Name x pos) Q ρ σ :=
 .mk fun _ _ _ G F=>wpAny_Name (pD F hv hk (fun w r=>PE.ofE0 G F r ⟨rfl,h⟩) hn) hd
theorem xX {x:Str} {pos:Pos} {v:Value} {A:Around} {s:Shared} {P:Value->Shared->Prop} {E:Value->Shared->Prop} (G:SG c σ s) (F:FR c env own ρ σ s.heap) (hk:env.kindOf x=some .globalImplicit) (e:nsIn c.K mainGlobals x=some (some v))
  (h:P v s) (hd:(x==("__debug__":Str))=false):wpAny (model c.prog c.w) A (eval (.Name x pos) env) P E s:=by
 refine Name_function_global F.kind hk (loadGlobal_global (mg:=c.mg) ?_ (mg_of c.X c.T.g e) h) hd
 rw [F.glob];exact c.T.g.keeps G.base
theorem zy {x:Str} {pos:Pos} {v:Value} {A:Around} {s:Shared} {P:Value->Shared->Prop} {E:Value->Shared->Prop} (G:SG c σ s) (F:FR c env own ρ σ s.heap) (hk:env.kindOf x=some .globalImplicit) (e:nsIn c.K mainGlobals x=some none) (hv:bootBuiltins x=some v) (hn:x≠"__name__")
  (h:P v s) (hd:(x==("__debug__":Str))=false):wpAny (model c.prog c.w) A (eval (.Name x pos) env) P E s:=by
 refine Name_function_global F.kind hk (loadGlobal_builtin (mg:=c.mg) (mb:=c.mb) ?_ (mg_none_of c.X c.T.g e) ?_ ((c.T.builtins x hn).trans hv) h) hd
 ·rw [F.glob];exact c.T.g.keeps G.base
 ·rw [F.built];exact c.T.b.keeps G.base
theorem pE {x:Str} {pos:Pos} {i:Int} {t:Tok} (hk:env.kindOf x=some .globalImplicit) (e:nsIn c.K mainGlobals x=some (some (.int i t))) (h:Q (.int i) σ) (hd:(x==("__debug__":Str))=false):WE c n env own (.Name x pos) Q ρ σ :=
 .mk fun _ _ _ G F=>xX G F hk e (PE.ofE0 G F (g:=CV.int i) ⟨_,rfl⟩ ⟨rfl,h⟩) hd
noncomputable def mD:List Str->Nat->List Value
 | [],_=>[]
 | x::xs,t=>.str x t::mD xs (t+1)
theorem u5 {h:Heap}:∀ (xs:List Str) (t:Nat),VRs h (xs.map .str) (mD xs t)
 | [],_=>VRs.nil
 | x::xs,t=>.cons ⟨t,rfl⟩ (u5 xs (t+1))
theorem yx {x:Str} {pos:Pos} {a:Addr} (xs:List Str) (t:Nat) (hk:env.kindOf x=some .globalImplicit) (e:nsIn c.K mainGlobals x=some (some (.ref a))) (ht:c.K.lookup a=some { cls:=.type "tuple",data:=.seq (mD xs t).toArray }) (h:Q (.tup (xs.map .str)) σ) (hd:(x==("__debug__":Str))=false):WE c n env own (.Name x pos) Q ρ σ :=
 .mk fun _ _ _ G F=>xX G F hk e (PE.ofE0 G F (g:=CV.tup (xs.map .str)) ⟨a,_,rfl,⟨_,G.base _ _ (c.X _ _ ht)⟩,u5 xs t⟩ ⟨rfl,h⟩) hd
noncomputable def bin (op:Operator):List Value->Sem Value | [x,y]=>binaryOp op x y | _=>unsupported ""
noncomputable def cmp (op:CmpOp):List Value->Sem Value | [x,y]=>compareOp op x y | _=>unsupported ""
noncomputable def tru:List Value->Sem Bool | [x]=>truthy x | _=>unsupported ""
noncomputable def una (op:UnaryOp):List Value->Sem Value | [x]=>unaryOp op x | _=>unsupported ""
theorem two {α γ:Type} {R:Heap->γ->α->Prop} {l r:Expr} {f:List Value->Sem α} {Q:γ->Sto->Prop}
  (h:WE c n env own l (fun a σ₁=>WE c n env own r (fun b σ₂=>OW c n R [a,b] f Q σ₂) ρ σ₁) ρ σ) {A:Around} {s:Shared} (hR:Room n A) (G:SG c σ s) (F:FR c env own ρ σ s.heap) :
  wpAny (model c.prog c.w) A (eval l env) (fun a s₁=>wpAny (model c.prog c.w) A (eval r env) (fun b s₂=>wpAny (model c.prog c.w) A (f [a,b]) (PE c env own R (fun g ρ' σ'=>ρ'=ρ/\Q g σ') σ s) Ef s₂) Ef s₁) Ef s:=by
 refine h.on0 hR G F (fun a s₁ ca σ₁ va G1 F₁ K1 h₁=>?_)
 refine h₁.on0 hR G1 F₁ (fun b s₂ cb σ₂ vb G2 F₂ K2 h₂=>?_)
 refine wpAny_mono (W.op h₂ (vals:=[a,b]) hR G2 F₂ (.cons (va.mono (G1.stayF F₁ K2)) (.cons vb .nil))) (fun _ _ x=>PE.trans (K1.trans K2) x) fun _ _ x=>x
theorem gu {l r:Expr} {op:Operator} {pos:Pos} (h:WE c n env own l (fun a σ₁=>WE c n env own r (fun b σ₂=>OW c n VR [a,b] (bin op) Q σ₂) ρ σ₁) ρ σ):WE c n env own (.BinOp l op r pos) Q ρ σ :=
 .mk fun _ _ hR G F=>wpAny_BinOp (two h hR G F)
theorem jP {l r:Expr} {op:CmpOp} {pos:Pos} (h:WE c n env own l (fun a σ₁=>WE c n env own r (fun b σ₂=>OW c n VR [a,b] (cmp op) Q σ₂) ρ σ₁) ρ σ) (hm:behindInMarks op r=false):WE c n env own (.Compare l [op] [r] pos) Q ρ σ :=
 .mk fun _ _ hR G F=>wpAny_Compare1 (two h hR G F) hm
theorem jQ {l r:Expr} {op:CmpOp} {pos:Pos} {Q:Bool->Sto->Prop} (h:WE c n env own l (fun a σ₁=>WE c n env own r (fun b σ₂=>OW c n VR [a,b] (cmp op) (fun v σ₃=>OW c n BR [v] tru Q σ₃) σ₂) ρ σ₁) ρ σ) (hm:behindInMarks op r=false):WB c n env own (.Compare l [op] [r] pos) Q ρ σ :=
 .mk fun A s hR G F=>wpAny_isTrue_Compare1 (wpAny_mono (two h hR G F) (fun a s₁ h₁=>wpAny_mono h₁ (fun b s₂ h₂=>wpAny_mono h₂ (fun v s₃ h₃=>by
  obtain ⟨cv,ρ3,σ₃,va,G3,F3,K3,e₃,q⟩:=h₃
  subst e₃
  exact wpAny_mono (W.op q (vals:=[v]) hR G3 F3 (.cons va .nil)) (fun _ _ x=>PE.trans K3 x) fun _ _ x=>x) fun _ _ x=>x) fun _ _ x=>x) fun _ _ x=>x) hm
theorem gw {x:Expr} {op:UnaryOp} {pos:Pos} (h:WE c n env own x (fun a σ₁=>OW c n VR [a] (una op) Q σ₁) ρ σ):WE c n env own (.UnaryOp op x pos) Q ρ σ :=
 .mk fun A s hR G F=>wpAny_UnaryOp (wpAny_mono (h.go A s hR G F) (fun v s₁ h₁=>by
  obtain ⟨cv,ρ3,σ₃,va,G3,F3,K3,e₃,q⟩:=h₁
  subst e₃
  exact wpAny_mono (W.op q (vals:=[v]) hR G3 F3 (.cons va .nil)) (fun _ _ x=>PE.trans K3 x) fun _ _ x=>x) fun _ _ x=>x)
theorem jR {e:Expr} {Q:Bool->Sto->Prop} (h:WE c n env own e (fun v σ₁=>OW c n BR [v] tru Q σ₁) ρ σ) (he:isTrue e env (eval e env)=(do let v ← eval e env;standAt e.pos;holding [v] (truthy v))):WB c n env own e Q ρ σ :=
 .mk fun A s hR G F=>wpAny_isTrue_value (wpAny_mono (h.go A s hR G F) (fun v s₁ h₁=>by
  obtain ⟨cv,ρ3,σ₃,va,G3,F3,K3,e₃,q⟩:=h₁
  subst e₃
  exact wpAny_mono (W.op q (vals:=[v]) hR G3 F3 (.cons va .nil)) (fun _ _ x=>PE.trans K3 x) fun _ _ x=>x) fun _ _ x=>x) he
theorem jS {x:Expr} {pos:Pos} {Q:Bool->Sto->Prop} (h:WB c n env own x (fun b σ₁=>Q (!b) σ₁) ρ σ):WB c n env own (.UnaryOp .Not x pos) Q ρ σ :=
 .mk fun A s hR G F=>wpAny_isTrue_Not (h.on hR G F (fun _ _ g ρ' σ' r G' F' K q=>⟨!g,ρ',σ',by unfold BR at r ⊢;rw [r],G',F',K,q⟩))
theorem nK {t b o:Expr} {pos:Pos} (h:WB c n env own t (fun v σ₁=>if v=true then WE c n env own b Q ρ σ₁ else WE c n env own o Q ρ σ₁) ρ σ):WE c n env own (.IfExp t b o pos) Q ρ σ :=
 .mk fun A s hR G F=>wpAny_IfExp (h.on0 hR G F (fun v s₁ g σ' r G' F' K q=>by
  unfold BR at r;subst r
  cases v with
  | true=>simp only [if_true] at q ⊢;exact wpAny_mono (q.go A s₁ hR G' F') (fun _ _ x=>PE.trans K x) fun _ _ x=>x
  | false=>simp only [Bool.false_eq_true,if_false] at q ⊢;exact wpAny_mono (q.go A s₁ hR G' F') (fun _ _ x=>PE.trans K x) fun _ _ x=>x))
noncomputable abbrev WT (c:Cx) (n:Nat) (env:Env) (own:List Addr) (op:BoolOp) (es:List Expr) (Q:Bool->Sto->Prop) (ρ:Loc) (σ:Sto):Prop :=
 W c n env own BR (allTrue op es env) (fun v ρ' σ'=>ρ'=ρ/\Q v σ') ρ σ
theorem rW {op:BoolOp} {es:List Expr} {pos:Pos} {Q:Bool->Sto->Prop} (h:WT c n env own op es Q ρ σ):WB c n env own (.BoolOp op es pos) Q ρ σ :=
 .mk fun A s hR G F=>wpAny_isTrue_BoolOp (h.go A s hR G F)
theorem pF {op:BoolOp} {Q:Bool->Sto->Prop} (h:Q (op==.And) σ):WT c n env own op [] Q ρ σ :=
 .mk fun A s hR G F=>by
  skip
  exact wpAny_pure (PE.ofE0 G F (g:=(op==.And)) rfl ⟨rfl,h⟩)
theorem kb {e:Expr} {es:List Expr} {Q:Bool->Sto->Prop} (h:WB c n env own e (fun b σ₁=>if b=true then WT c n env own .And es Q ρ σ₁ else Q false σ₁) ρ σ):WT c n env own .And (e::es) Q ρ σ :=
 .mk fun A s hR G F=>by
  skip
  refine wpAny_bind (h.on0 hR G F (fun v s₁ g σ' r G' F' K q=>?_))
  unfold BR at r;subst r
  cases v with
  | true=>simp only [if_true] at q;exact wpAny_mono (q.go A s₁ hR G' F') (fun _ _ x=>PE.trans K x) fun _ _ x=>x
  | false=>simp only [Bool.false_eq_true,if_false] at q;exact wpAny_pure ⟨false,ρ,σ',rfl,G',F',K,rfl,q⟩
theorem iW {e:Expr} {es:List Expr} {Q:Bool->Sto->Prop} (h:WB c n env own e (fun b σ₁=>if b=true then Q true σ₁ else WT c n env own .Or es Q ρ σ₁) ρ σ):WT c n env own .Or (e::es) Q ρ σ :=
 .mk fun A s hR G F=>by
  skip
  refine wpAny_bind (h.on0 hR G F (fun v s₁ g σ' r G' F' K q=>?_))
  unfold BR at r;subst r
  cases v with
  | false=>simp only [Bool.false_eq_true,if_false] at q;exact wpAny_mono (q.go A s₁ hR G' F') (fun _ _ x=>PE.trans K x) fun _ _ x=>x
  | true=>simp only [if_true] at q;exact wpAny_pure ⟨true,ρ,σ',rfl,G',F',K,rfl,q⟩
end

noncomputable def put:Loc->Str->CV->Loc
 | [],x,v=>[(x,v)]
 | (y,w)::r,x,v=>if y=x then (y,v)::r else (y,w)::put r x v
theorem zW (x:Str) (v:CV) (y:Str):∀ ρ:Loc,(put ρ x v).lookup y=if y=x then some v else ρ.lookup y
 | []=>by
  simp only [put,List.lookup_cons,List.lookup_nil]
  by_cases h:y=x
  ·subst h;simp
  ·have:(y==x)=false:=beq_eq_false_iff_ne.mpr h
   simp [this,h]
 | (z,w)::r=>by
  simp only [put]
  by_cases hz:z=x
  ·subst hz
   simp only [if_true,List.lookup_cons]
   by_cases h:y=z
   ·subst h;simp
   ·have:(y==z)=false:=beq_eq_false_iff_ne.mpr h
    simp [this,h]
  ·simp only [hz,if_false,List.lookup_cons]
   have ih:=zW x v y r
   by_cases h:y=z
   ·subst h;simp [hz]
   ·have:(y==z)=false:=beq_eq_false_iff_ne.mpr h
    simp only [this]
    exact ih
theorem yt {h:Heap} {a:Addr} {m:Str->Option Value} {v:Option Value} (x:h.Ns a m) (y:h.IsCell a v):False:=by
 refine ym (x) ?_;intro o es ep ho hd _
 refine za (y) ?_;intro o' ho' hd'
 rw [ho] at ho';cases ho'
 rw [hd] at hd';cases hd'
section
variable {c:Cx} {n:Nat} {env:Env} {own:List Addr} {ρ:Loc} {σ:Sto}
theorem xO {h h':Heap} {a:Addr} {own:List Addr} (ha:a∈own) (S:Heap.SameBut a h h'):Keep σ own h h' σ :=
 fun b o e nb hb=>⟨(S.2 b fun q=>hb (q ▸ ha)).trans e,nb⟩
theorem SG.ofOwn {s:Shared} {h':Heap} {own:List Addr} {t:Nat} (G:SG c σ s) (ho:∀ a∈own,σ a=none/\c.base.get? a=none) (T:zv s.heap h') (K:∀ b o,s.heap.get? b=some o->b∉own->h'.get? b=some o):SG c σ { s with heap:=h',toks:=t } :=
 ⟨fun b o e=>K b o (G.base b o e) fun z=>(by have:=(ho b z).2;rw [e] at this;cases this),
  fun a co e=>(G.rep a co e).mono T fun o q=>K a o q fun z=>(by have:=(ho a z).1;rw [e] at this;cases this),G.fresh,G.low,G.gens,G.os⟩
theorem yy {h h':Heap} {a:Addr} (S:Heap.SameBut a h h') (hd:∃ o,h.get? a=some o/\∀ its n,o.data≠.seq its n):zv h h':=by
 intro b items z1;obtain ⟨k,ho⟩:=z1
 refine ⟨k,(S.2 b ?_).trans ho⟩
 rintro rfl
 refine za (hd) ?_;intro o' ho' hn
 rw [ho] at ho';cases ho'
 exact hn _ _ rfl
theorem wU {x:Str} {v:CV} {w:Value} {A:Around} {s:Shared} {P:Unit->Shared->Prop} {E:Value->Shared->Prop} (G:SG c σ s) (F:FR c env own ρ σ s.heap) (hk:env.kindOf x=some .local) (hv:VR s.heap v w)
  (h:∀ h',SG c σ { s with heap:=h',toks:=s.toks+1 }->FR c env own (put ρ x v) σ h'->Keep σ own s.heap h' σ->P () { s with heap:=h',toks:=s.toks+1 }) :
  wpAny (model c.prog c.w) A (storeName env x w) P E s:=by
 refine za (F.ns) ?_;intro m hn hm
 refine wpAny_storeName_local hk hn (fun h' hn' hs'=>?_) (by rw [F.kind];rfl)
 have T:zv s.heap h':=yy hs' (F.ownok _ F.lown).2.2
 refine h h' (G.ofOwn (own:=[env.locals]) (fun a ha=>by rw [List.mem_singleton] at ha;subst ha;exact ⟨(F.ownok _ F.lown).1,(F.ownok _ F.lown).2.1⟩) T fun b o e nb=>(hs'.2 b (by simpa using nb)).trans e) ⟨F.kind,F.glob,F.built,(z0 _ hn' (fun y cv a b=>?_)),fun y cv a b=>?_,fun y a hy=>?_,F.apart,F.lown,fun a ha=>?_⟩ (xO F.lown hs')
 ·rw [zW] at a
  by_cases q:y=x
  ·subst q;simp only [if_true,Option.some.injEq] at a;subst a;exact (z0 w (by simp) (hv.mono T))
  ·rw [if_neg q] at a
   refine za (hm y cv a b) ?_;intro u hu r
   exact (z0 u (by simp only [q,if_false];exact hu) (r.mono T))
 ·rw [zW] at a
  by_cases q:y=x
  ·subst q;exact absurd hk b
  ·rw [if_neg q] at a
   refine zg (F.cell y cv a b) ?_;intro ad u hc hu r
   exact (zj ad u hc (hu.sameBut hs' (fun z=>yt hn (z ▸ hu))) (r.mono T))
 ·obtain ⟨nn,v₀,q⟩:=F.alive y a hy
  exact ⟨nn,v₀,q.sameBut hs' (fun z=>yt hn (z ▸ q))⟩
 ·refine zh (F.ownok a ha) ?_;intro e1 e2 q20;refine za (q20) ?_;intro o e3 e4
  by_cases q:a=env.locals
  ·subst q
   refine ym (hn') ?_;intro o' es ep ho' hd' _
   exact ⟨e1,e2,(z0 o' ho' (fun its k z=>by rw [hd'] at z;cases z))⟩
  ·exact ⟨e1,e2,(z0 o ((hs'.2 a q).trans e3) e4)⟩
theorem rX {x:Str} {v:CV} {w:Value} {A:Around} {s:Shared} {P:Unit->Shared->Prop} {E:Value->Shared->Prop} (G:SG c σ s) (F:FR c env own ρ σ s.heap) (hk:env.kindOf x=some .cell) (ho:∀ a,env.cells.lookup x=some a->a∈own) (hx:(env.cells.lookup x).isSome=true) (hv:VR s.heap v w)
  (h:∀ h',SG c σ { s with heap:=h' }->FR c env own (put ρ x v) σ h'->Keep σ own s.heap h' σ->P () { s with heap:=h' }) :
  wpAny (model c.prog c.w) A (storeName env x w) P E s:=by
 refine za (F.ns) ?_;intro m hn hm
 obtain ⟨ca,hca⟩:=Option.isSome_iff_exists.mp hx
 have hco:=ho ca hca
 obtain ⟨nn,v₀,hcell⟩:=F.alive x ca hca
 refine wpAny_storeName_cell F.kind hk hca hcell (fun h' hc' hs'=>?_)
 have T:zv s.heap h':=yy hs' (F.ownok _ hco).2.2
 have nL:env.locals≠ca:=fun z=>yt hn (z ▸ hcell)
 refine h h' (G.ofOwn (t:=s.toks) (own:=[ca]) (fun a ha=>by rw [List.mem_singleton] at ha;subst ha;exact ⟨(F.ownok _ hco).1,(F.ownok _ hco).2.1⟩) T fun b o e nb=>(hs'.2 b (by simpa using nb)).trans e) ⟨F.kind,F.glob,F.built,(z0 m (hn.sameBut hs' nL) (fun y cv a b=>?_)),fun y cv a b=>?_,fun y a hy=>?_,F.apart,F.lown,fun a ha=>?_⟩ (xO hco hs')
 ·rw [zW] at a
  by_cases q:y=x
  ·subst q;rw [hk] at b;cases b
  ·rw [if_neg q] at a
   refine za (hm y cv a b) ?_;intro u hu r
   exact (z0 u hu (r.mono T))
 ·rw [zW] at a
  by_cases q:y=x
  ·subst q;simp only [if_true,Option.some.injEq] at a;subst a
   exact (zj ca w hca hc' (hv.mono T))
  ·rw [if_neg q] at a
   refine zg (F.cell y cv a b) ?_;intro ad u hc hu r
   exact (zj ad u hc (hu.sameBut hs' (fun z=>q (F.apart y x ca (z ▸ hc) hca))) (r.mono T))
 ·by_cases q:y=x
  ·subst q;rw [hca] at hy;cases hy;exact ⟨nn,_,hc'⟩
  ·obtain ⟨nn',v₁,z⟩:=F.alive y a hy
   exact ⟨nn',v₁,z.sameBut hs' (fun e=>q (F.apart y x ca (e ▸ hy) hca))⟩
 ·refine zh (F.ownok a ha) ?_;intro e1 e2 q23;refine za (q23) ?_;intro o e3 e4
  by_cases q:a=ca
  ·subst q
   refine za (hc') ?_;intro o' ho' hd'
   exact ⟨e1,e2,(z0 o' ho' (fun its k z=>by rw [hd'] at z;cases z))⟩
  ·exact ⟨e1,e2,(z0 o ((hs'.2 a q).trans e3) e4)⟩
structure WA (c:Cx) (n:Nat) (env:Env) (own:List Addr) (t:Expr) (v:CV) (Q:Loc->Sto->Prop) (ρ:Loc) (σ:Sto):Prop where
 go:∀ A s w,Room n A->SG c σ s->FR c env own ρ σ s.heap->VR s.heap v w->wpAny (model c.prog c.w) A (assign t env w) (PE c env own UR (fun _ ρ' σ'=>Q ρ' σ') σ s) Ef s
theorem uP {x:Str} {pos:Pos} {v:CV} {Q:Loc->Sto->Prop} (hk:env.kindOf x=some .local) (h:Q (put ρ x v) σ):WA c n env own (.Name x pos) v Q ρ σ :=
 .mk fun A s w _ G F r=>by
  rw [PySem.assign_Name]
  exact wpAny_bind (wpAny_standAt (wpAny_bindName (wU G F hk r fun h' G' F' K=>⟨(),_,σ,trivial,G',F',K,h⟩)))
theorem kc {x:Str} {pos:Pos} {v:CV} {Q:Loc->Sto->Prop} {a:Addr} (hk:env.kindOf x=some .cell) (hx:env.cells.lookup x=some a) (ha:a∈own) (h:Q (put ρ x v) σ):WA c n env own (.Name x pos) v Q ρ σ :=
 .mk fun A s w _ G F r=>by
  rw [PySem.assign_Name]
  exact wpAny_bind (wpAny_standAt (wpAny_bindName (rX G F hk (fun a' e=>by cases hx.symm.trans e;exact ha) (by rw [hx];rfl) r fun h' G' F' K=>⟨(),_,σ,trivial,G',F',K,h⟩)))
theorem nM {Q:CF->Loc->Sto->Prop} (h:Q .next ρ σ):WSS c n env own [] Q ρ σ :=
 .mk fun _ _ _ G F=>wpAny_execs_nil (PE.ofE0 G F (g:=CF.next) rfl h)
theorem yM {st:Stmt} {rest:List Stmt} {Q:CF->Loc->Sto->Prop} (h:WS c n env own st (fun f ρ1 σ₁=>match f with | .next=>WSS c n env own rest Q ρ1 σ₁ | f=>Q f ρ1 σ₁) ρ σ):WSS c n env own (st::rest) Q ρ σ :=
 .mk fun A s hR G F=>wpAny_execs_cons (h.on hR G F (fun f s₁ g ρ1 σ₁ r G1 F₁ K1 q=>by
  cases g with
  | next=>obtain rfl:=r;exact wpAny_mono (q.go A s₁ hR G1 F₁) (fun _ _ x=>PE.trans K1 x) fun _ _ x=>x
  | brk=>obtain rfl:=r;exact ⟨.brk,ρ1,σ₁,rfl,G1,F₁,K1,q⟩
  | cont=>obtain rfl:=r;exact ⟨.cont,ρ1,σ₁,rfl,G1,F₁,K1,q⟩
  | ret v=>refine za (r) ?_;rintro w rfl r;exact ⟨.ret v,ρ1,σ₁,(z0 w rfl r),G1,F₁,K1,q⟩))
theorem jT {t:Expr} {b o:List Stmt} {pos:Pos} {Q:CF->Loc->Sto->Prop} (h:WB c n env own t (fun v σ₁=>if v=true then WSS c n env own b Q ρ σ₁ else WSS c n env own o Q ρ σ₁) ρ σ):WS c n env own (.If t b o pos) Q ρ σ :=
 .mk fun A s hR G F=>wpAny_If (h.on0 hR G F (fun v s₁ g σ' r G' F' K q=>by
  unfold BR at r;subst r
  cases v with
  | true=>simp only [if_true] at q ⊢;exact wpAny_mono (q.go A s₁ hR G' F') (fun _ _ x=>PE.trans K x) fun _ _ x=>x
  | false=>simp only [Bool.false_eq_true,if_false] at q ⊢;exact wpAny_mono (q.go A s₁ hR G' F') (fun _ _ x=>PE.trans K x) fun _ _ x=>x))
theorem jU {e:Expr} {pos:Pos} {Q:CF->Loc->Sto->Prop} (h:WE c n env own e (fun v σ₁=>Q (.ret v) ρ σ₁) ρ σ):WS c n env own (.Return (some e) pos) Q ρ σ :=
 .mk fun A s hR G F=>wpAny_Return_some (h.on0 hR G F (fun v s₁ g σ' r G' F' K q=>by exact ⟨.ret g,ρ,σ',(z0 v rfl r),G',F',K,q⟩))
theorem kf {pos:Pos} {Q:CF->Loc->Sto->Prop} (h:Q (.ret .none) ρ σ):WS c n env own (.Return none pos) Q ρ σ :=
 .mk fun A s hR G F=>wpAny_Return_none (PE.ofE0 G F (g:=CF.ret .none) (z0 (.none) rfl rfl) h)
theorem kg {pos:Pos} {Q:CF->Loc->Sto->Prop} (h:Q .cont ρ σ):WS c n env own (.Continue pos) Q ρ σ :=
 .mk fun A s hR G F=>by
  show wpAny _ _ (do standAt pos;pure Flow.cont) _ _ _
  exact wpAny_bind (wpAny_standAt (wpAny_pure (PE.ofE0 G F (g:=CF.cont) rfl h)))
theorem pG {e t:Expr} {Q:Loc->Sto->Prop} (h:WE c n env own e (fun v σ₁=>WA c n env own t v Q ρ σ₁) ρ σ) {A:Around} {s:Shared} (hR:Room n A) (G:SG c σ s) (F:FR c env own ρ σ s.heap) :
  wpAny (model c.prog c.w) A (eval e env) (fun v s₁=>wpAny (model c.prog c.w) A (assign t env v) (fun _ s'=>∃ ρ' σ',SG c σ' s'/\FR c env own ρ' σ' s'.heap/\Keep σ own s.heap s'.heap σ'/\Q ρ' σ') Ef s₁) Ef s :=
 h.on0 hR G F (fun v s₁ g σ' r G' F' K q=>by
  exact wgo (q.go A s₁ v hR G' F' r) (fun _ _ _ ρ2 σ₂ _ G2 F₂ K2 q₂=>(zH ρ2 σ₂ G2 F₂ (K.trans K2) q₂)))
theorem vf {t e:Expr} {pos:Pos} {Q:CF->Loc->Sto->Prop} (h:WE c n env own e (fun v σ₁=>WA c n env own t v (fun ρ' σ'=>Q .next ρ' σ') ρ σ₁) ρ σ)
  (hs:swapsWith e (some t) pos.line env=pure false) (hw:swappedStores [t] e env=pure none) (ht:(assignEach [t] env).map (·.2)=[assign t env]):WS c n env own (.Assign [t] e pos) Q ρ σ :=
 .mk fun A s hR G F=>wpAny_Assign_stores (wpAny_mono (pG h hR G F) (fun v s₁ h₁=>by
  rw [ht]
  exact wpAny_mono h₁ (fun _ s' q25=>zM q25 fun ρ' σ' a b d q=>⟨.next,ρ',σ',rfl,a,b,d,q⟩) fun _ _ x=>x) fun _ _ x=>x) hs hw
end

noncomputable def upd (σ:Sto) (a:Addr) (co:CO):Sto:=fun b=>if b=a then some co else σ b
theorem zb (σ:Sto) (a:Addr) (co:CO):upd σ a co a=some co:=by simp [upd]
theorem zB {σ:Sto} {a b:Addr} {co:CO} (h:b≠a):upd σ a co b=σ b:=by simp [upd,h]
section
variable {c:Cx} {n:Nat} {env:Env} {own:List Addr} {ρ:Loc} {σ:Sto}
theorem SG.lt {s:Shared} (G:SG c σ s) {a:Addr} {co:CO} (h:σ a=some co):a<s.heap.objs.size:=yl ((G.rep a co h).there) fun _ ho=>Heap.lt_size ho
theorem SG.top {s:Shared} (G:SG c σ s) {a:Addr} (h:s.heap.objs.size<=a):σ a=none:=by
 cases e:σ a with
 | none=>rfl
 | some co=>exact absurd h (Nat.not_le.mpr (G.lt e))
theorem SG.topB {s:Shared} (G:SG c σ s) {a:Addr} (h:s.heap.objs.size<=a):c.base.get? a=none:=by
 cases e:c.base.get? a with
 | none=>rfl
 | some o=>exact absurd h (Nat.not_le.mpr (Heap.lt_size (G.base _ _ e)))
theorem SG.high {s:Shared} (G:SG c σ s) {a:Addr} (h:s.heap.objs.size<=a):(a==sysModules)=false:=by
 refine za (c.T.nolimit.keeps G.base) ?_;intro m hn _
 have h2:=hn.lt
 have:(2:Nat)<a:=Nat.lt_of_lt_of_le h2 h
 exact beq_eq_false_iff_ne.mpr fun e=>by
  have:(2:Nat)<1:=by rw [show a=1 from e] at this;exact this
  exact absurd this (by decide)
theorem SG.upd {s:Shared} {h':Heap} {own:List Addr} {d:Addr} {co co':CO} {t:Nat} (G:SG c σ s) (hd:σ d=some co) (ho:∀ a∈own,σ a=none/\c.base.get? a=none/\∃ o,s.heap.get? a=some o/\∀ its n,o.data≠.seq its n)
  (K:∀ b o,s.heap.get? b=some o->b≠d->b∉own->h'.get? b=some o) (R:zv s.heap h'->Rep c h' d co') :
  SG c (upd σ d co') { s with heap:=h',toks:=t }/\Keep σ own s.heap h' (Mine.upd σ d co')/\zv s.heap h':=by
 have T:zv s.heap h':=by
  intro b items z1;obtain ⟨k,e⟩:=z1
  refine ⟨k,K b _ e ?_ ?_⟩
  ·rintro rfl;exact (G.rep _ _ hd).notTup items ⟨k,e⟩
  ·intro hb
   refine zh (ho b hb) ?_;intro _ _ q26;refine za (q26) ?_;intro o' e' hn
   rw [e] at e';cases e'
   exact hn _ _ rfl
 refine ⟨⟨fun b o e=>K b o (G.base b o e) ?_ ?_,fun a co1 e=>?_,fun a co1 e=>?_,fun a co1 e=>?_,G.gens,G.os⟩,fun b o e nb hb=>?_,T⟩
 ·rintro rfl;have:=G.fresh _ _ hd;rw [e] at this;cases this
 ·intro hb;have:=(ho b hb).2.1;rw [e] at this;cases this
 ·by_cases q:a=d
  ·subst q;rw [zb] at e;cases e;exact R T
  ·rw [zB q] at e
   exact (G.rep a co1 e).mono T fun o z=>K a o z q fun hb=>(by have:=(ho a hb).1;rw [e] at this;cases this)
 ·by_cases q:a=d
  ·subst q;exact G.fresh _ _ hd
  ·rw [zB q] at e;exact G.fresh _ _ e
 ·by_cases q:a=d
  ·subst q;exact G.low _ _ hd
  ·rw [zB q] at e;exact G.low _ _ e
 ·have q:b≠d:=by rintro rfl;rw [hd] at nb;cases nb
  exact ⟨K b o e q hb,by rw [zB q];exact nb⟩
theorem SG.new {s:Shared} {h':Heap} {a:Addr} {co:CO} {t:Nat} (G:SG c σ s) (ha:s.heap.objs.size<=a) (K:∀ b o,s.heap.get? b=some o->h'.get? b=some o) (R:zv s.heap h'->Rep c h' a co) :
  SG c (Mine.upd σ a co) { s with heap:=h',toks:=t }/\Keep σ [] s.heap h' (Mine.upd σ a co)/\zv s.heap h':=by
 have T:zv s.heap h':=fun b items q27=>yl q27 fun k e=>⟨k,K b _ e⟩
 refine ⟨⟨fun b o e=>K b o (G.base b o e),fun b co1 e=>?_,fun b co1 e=>?_,fun b co1 e=>?_,G.gens,G.os⟩,fun b o e nb _=>⟨K b o e,?_⟩,T⟩
 ·by_cases q:b=a
  ·subst q;rw [zb] at e;cases e;exact R T
  ·rw [zB q] at e;exact (G.rep b co1 e).mono T fun o z=>K b o z
 ·by_cases q:b=a
  ·subst q;exact G.topB ha
  ·rw [zB q] at e;exact G.fresh _ _ e
 ·by_cases q:b=a
  ·subst q;exact G.high ha
  ·rw [zB q] at e;exact G.low _ _ e
 ·have q:b≠a:=by rintro rfl;exact absurd ha (Nat.not_le.mpr (Heap.lt_size e))
  rw [zB q];exact nb
theorem SG.grow {s:Shared} {h':Heap} {t:Nat} (G:SG c σ s) (K:∀ b o,s.heap.get? b=some o->h'.get? b=some o) :
  SG c σ { s with heap:=h',toks:=t }/\Keep σ [] s.heap h' σ/\zv s.heap h':=by
 have T:zv s.heap h':=fun b items q28=>yl q28 fun k e=>⟨k,K b _ e⟩
 exact ⟨⟨fun b o e=>K b o (G.base b o e),fun b co1 e=>(G.rep b co1 e).mono T fun o z=>K b o z,G.fresh,G.low,G.gens,G.os⟩,fun b o e nb _=>⟨K b o e,nb⟩,T⟩
theorem zl (h:Heap) (o:Obj):∀ b x,h.get? b=some x->(h.push o).get? b=some x:=fun _ _ e=>Heap.get?_push_of_some o e
noncomputable abbrev WAs (c:Cx) (n:Nat) (env:Env) (own:List Addr) (pos:Pos) (es:List Expr) (Q:List CV->Sto->Prop) (ρ:Loc) (σ:Sto):Prop :=
 W c n env own VRs (spliced (backTo pos (starEach es env))) (fun vs ρ' σ'=>ρ'=ρ/\Q vs σ') ρ σ
theorem kh {pos:Pos} {Q:List CV->Sto->Prop} (h:Q [] σ):WAs c n env own pos [] Q ρ σ :=
 .mk fun _ _ _ G F=>spliced_none (PE.ofE0 G F (g:=([]:List CV)) VRs.nil ⟨rfl,h⟩)
theorem rY {pos:Pos} {e:Expr} {es:List Expr} {Q:List CV->Sto->Prop} (he:starEach (e::es) env=(false,eval e env)::starEach es env)
  (h:WE c n env own e (fun v σ₁=>WAs c n env own pos es (fun vs σ₂=>Q (v::vs) σ₂) ρ σ₁) ρ σ):WAs c n env own pos (e::es) Q ρ σ :=
 .mk fun A s hR G F=>spliced_more (h.on0 hR G F (fun v s₁ g σ₁ r G1 F₁ K1 h₁=>by
  exact h₁.on0 hR G1 F₁ (fun vs s₂ g₂ σ₂ r₂ G2 F₂ K2 h₂=>⟨g::g₂,ρ,σ₂,.cons (r.mono (G1.stayF F₁ K2)) r₂,G2,F₂,K1.trans K2,rfl,h₂⟩))) he
noncomputable def zQ (f:Value):List Value->Sem Value:=fun vs=>call f vs
noncomputable def yu (c:Cx) (f:Value):Prop:=∀ h,c.K.In h->∃ k,(k=Keeper.frame∨k=Keeper.machine∨k=Keeper.boundFrame)/\Looks (model c.prog c.w) h (keeperOf f) k
theorem zu {a:Addr} (h:keepIn c.K (.ref a)=true):yu c (.ref a):=fun _ X=>keeps_K h _ X
theorem zP {i:String}:yu c (.builtin i):=fun _ _=>(z0 (.machine) (.inr (.inl rfl)) (Looks.of_pure rfl))
theorem yG {i:String}:yu c (.type i):=fun _ _=>(z0 (.machine) (.inr (.inl rfl)) (Looks.of_pure rfl))
theorem wi {f:Value} {first:List Value} {fcs:List CV} {pos:Pos} {e:Expr} {es:List Expr} {Q:CV->Sto->Prop} (hk:yu c f) (hplain:(backTo pos (starEach (e::es) env)).any (·.1)=false) (he:starEach (e::es) env=(false,eval e env)::starEach es env)
  (h:WAs c n env own pos (e::es) (fun vs σ₁=>OW c n VR (fcs++vs) (zQ f) Q σ₁) ρ σ) {A:Around} {s:Shared} (hR:Room n A) (G:SG c σ s) (F:FR c env own ρ σ s.heap) (V:VRs s.heap fcs first) :
  wpAny (model c.prog c.w) A (callWith pos f first (backTo pos (starEach (e::es) env)) []) (PE c env own VR (fun g ρ' σ'=>ρ'=ρ/\Q g σ') σ s) Ef s:=by
 refine callWith_of (P:=c.K.In) (by rw [hplain];rfl) hk ?_
 have fin:∀ (vs:List Value) s₁,PE c env own VRs (fun vs ρ' σ'=>ρ'=ρ/\OW c n VR (fcs++vs) (zQ f) Q σ') σ s vs s₁->c.K.In s₁.heap/\wpAny (model c.prog c.w) A (call f (first++vs) []) (PE c env own VR (fun g ρ' σ'=>ρ'=ρ/\Q g σ') σ s) Ef s₁:=by
  intro vs s₁ z2;obtain ⟨g,ρ1,σ₁,r,G1,F₁,K1,e₁,q⟩:=z2
  subst e₁
  refine ⟨c.X.keeps G1.base,?_⟩
  exact wpAny_mono (W.op q (vals:=first++vs) hR G1 F₁ ((V.mono (G.stayF F K1)).append r)) (fun _ _ x=>PE.trans K1 x) fun _ _ x=>x
 have h1:=h.go A s hR G F
 rw [he] at h1 ⊢
 exact evalArgs_plain (wpAny_mono h1 (fun vs s₁ x=>fin vs s₁ x) fun _ _ x=>x)
theorem wV {f:Value} {first:List Value} {fcs:List CV} {pos:Pos} {Q:CV->Sto->Prop} (hk:yu c f)
  (h:OW c n VR fcs (zQ f) Q σ) {A:Around} {s:Shared} (hR:Room n A) (G:SG c σ s) (F:FR c env own ρ σ s.heap) (V:VRs s.heap fcs first) :
  wpAny (model c.prog c.w) A (callWith pos f first (backTo pos (starEach [] env)) []) (PE c env own VR (fun g ρ' σ'=>ρ'=ρ/\Q g σ') σ s) Ef s:=by
 refine callWith_of (P:=c.K.In) rfl hk (evalArgs_nil3 ⟨c.X.keeps G.base,?_⟩)
 have:=W.op h (vals:=first) hR G F V
 simpa [zQ] using this
theorem ki {x:Str} {p pos:Pos} {f:Value} {e:Expr} {es:List Expr} {Q:CV->Sto->Prop} (hkd:env.kindOf x=some .globalImplicit) (hn:nsIn c.K mainGlobals x=some (some f)) (hd:(x==("__debug__":Str))=false) (hk:yu c f)
  (hplain:(backTo pos (starEach (e::es) env)).any (·.1)=false) (he:starEach (e::es) env=(false,eval e env)::starEach es env)
  (h:WAs c n env own pos (e::es) (fun vs σ₁=>OW c n VR vs (zQ f) Q σ₁) ρ σ):WE c n env own (.Call (.Name x p) (e::es) [] pos) Q ρ σ :=
 .mk fun A s hR G F=>wpAny_Call_NameR (xX G F hkd hn (wi (fcs:=[]) hk hplain he h hR G F VRs.nil) hd)
theorem mE {x:Str} {p pos:Pos} {f:Value} {Q:CV->Sto->Prop} (hkd:env.kindOf x=some .globalImplicit) (hn:nsIn c.K mainGlobals x=some (some f)) (hd:(x==("__debug__":Str))=false) (hk:yu c f)
  (h:OW c n VR [] (zQ f) Q σ):WE c n env own (.Call (.Name x p) [] [] pos) Q ρ σ :=
 .mk fun A s hR G F=>wpAny_Call_NameR (xX G F hkd hn (wV (fcs:=[]) hk h hR G F VRs.nil) hd)
theorem rZ {x:Str} {p pos:Pos} {f:Value} {e:Expr} {es:List Expr} {Q:CV->Sto->Prop} (hkd:env.kindOf x=some .globalImplicit) (hn:nsIn c.K mainGlobals x=some none) (hb:bootBuiltins x=some f) (hnn:x≠"__name__") (hd:(x==("__debug__":Str))=false) (hk:yu c f)
  (hplain:(backTo pos (starEach (e::es) env)).any (·.1)=false) (he:starEach (e::es) env=(false,eval e env)::starEach es env)
  (h:WAs c n env own pos (e::es) (fun vs σ₁=>OW c n VR vs (zQ f) Q σ₁) ρ σ):WE c n env own (.Call (.Name x p) (e::es) [] pos) Q ρ σ :=
 .mk fun A s hR G F=>wpAny_Call_NameR (zy G F hkd hn hb hnn (wi (fcs:=[]) hk hplain he h hR G F VRs.nil) hd)
noncomputable def yb (c:Cx) (ov:CV) (name:Str) (f:Value) (σ:Sto):Prop :=
 ∀ A s w pl (P:Value × List Value->Shared->Prop),SG c σ s->VR s.heap ov w->P (f,[w]) s->wpAny (model c.prog c.w) A (getMethod w name pl) P Ef s
theorem jV {o:Expr} {name:Str} {apos pos:Pos} {e:Expr} {es:List Expr} {pl:Sem Bool} {Q:CV->Sto->Prop}
  (hcall:eval (.Call (.Attribute o name apos) (e::es) [] pos) env=(do
   let ov ← eval o env
   standAt apos.atName
   let (f,first) ← holding [ov] (getMethod ov name pl)
   callWith pos f first (backTo pos (starEach (e::es) env)) (backToKw pos (keywordEach [] env))))
  (hplain:(backTo pos (starEach (e::es) env)).any (·.1)=false) (he:starEach (e::es) env=(false,eval e env)::starEach es env)
  (h:WE c n env own o (fun ov σ₁=>∃ f,yb c ov name f σ₁/\yu c f/\WAs c n env own pos (e::es) (fun vs σ₂=>OW c n VR (ov::vs) (zQ f) Q σ₂) ρ σ₁) ρ σ) :
  WE c n env own (.Call (.Attribute o name apos) (e::es) [] pos) Q ρ σ :=
 .mk fun A s hR G F=>methodCall_KW (pl:=pl) (h.on0 hR G F (fun ov s₁ g σ₁ r G1 F₁ K1 q0=>by
  refine zm q0 ?_;intro f hm hk h₁
  exact hm A s₁ ov pl _ G1 r (wpAny_mono (wi (fcs:=[g]) (first:=[ov]) hk hplain he h₁ hR G1 F₁ (.cons r .nil)) (fun _ _ x=>PE.trans K1 x) fun _ _ x=>x))) hcall
theorem kj {o:Expr} {name:Str} {apos pos:Pos} {pl:Sem Bool} {Q:CV->Sto->Prop}
  (hcall:eval (.Call (.Attribute o name apos) [] [] pos) env=(do
   let ov ← eval o env
   standAt apos.atName
   let (f,first) ← holding [ov] (getMethod ov name pl)
   callWith pos f first (backTo pos (starEach [] env)) (backToKw pos (keywordEach [] env))))
  (h:WE c n env own o (fun ov σ₁=>∃ f,yb c ov name f σ₁/\yu c f/\OW c n VR [ov] (zQ f) Q σ₁) ρ σ) :
  WE c n env own (.Call (.Attribute o name apos) [] [] pos) Q ρ σ :=
 .mk fun A s hR G F=>methodCall_KW (pl:=pl) (h.on0 hR G F (fun ov s₁ g σ₁ r G1 F₁ K1 q0=>by
  refine zm q0 ?_;intro f hm hk h₁
  exact hm A s₁ ov pl _ G1 r (wpAny_mono (wV (fcs:=[g]) (first:=[ov]) hk h₁ hR G1 F₁ (.cons r .nil)) (fun _ _ x=>PE.trans K1 x) fun _ _ x=>x))) hcall
end

theorem yr {l:List (Str × Value)} {x:Str} (h:x∉l.map (·.1)):l.lookup x=none:=by
 induction l with
 | nil=>rfl
 | cons y r ih =>
  obtain ⟨k,v⟩:=y
  simp only [List.map_cons,List.mem_cons,not_or] at h
  rw [List.lookup_cons,beq_eq_false_iff_ne.mpr h.1]
  exact ih h.2
theorem wM {l:List (Str × Value)} (hn:(l.map (·.1)).Nodup) (x:Str):l.reverse.lookup x=l.lookup x:=by
 induction l with
 | nil=>rfl
 | cons y r ih =>
  obtain ⟨k,v⟩:=y
  simp only [List.map_cons,List.nodup_cons] at hn
  rw [List.reverse_cons,List.lookup_append,ih hn.2,List.lookup_cons,List.lookup_cons,List.lookup_nil]
  by_cases q:x=k
  ·subst q;rw [yr hn.1];simp
  ·rw [beq_eq_false_iff_ne.mpr q];cases r.lookup x <;> rfl
noncomputable def Binds (h:Heap):Loc->List (Str × Value)->Prop
 | [],bs=>bs=[]
 | e::es,bs=>∃ v r,bs=(e.1,v)::r/\VR h e.2 v/\Binds h es r
theorem Binds.names {h:Heap}:∀ {ρ:Loc} {bs:List (Str × Value)},Binds h ρ bs->bs.map (·.1)=ρ.map (·.1)
 | [],bs,x=>by obtain rfl:=x;rfl
 | e::es,bs,x=>by
  refine zg (x) ?_;intro v r q29 _ b;obtain rfl:=q29
  simp [b.names]
theorem Binds.get {h:Heap}:∀ {ρ:Loc} {bs:List (Str × Value)} {x:Str} {cv:CV},Binds h ρ bs->ρ.lookup x=some cv->∃ v,bs.lookup x=some v/\VR h cv v
 | [],bs,x,cv,b,e=>by simp at e
 | (k,d)::es,bs,x,cv,b,e=>by
  refine zg (b) ?_;rintro v r rfl a b
  rw [List.lookup_cons] at e ⊢
  cases q:x==k with
  | true=>rw [q] at e;cases e;exact (z0 v rfl a)
  | false=>rw [q] at e;exact b.get e
section
variable {c:Cx} {n:Nat} {env:Env} {own:List Addr} {ρ:Loc} {σ:Sto}
theorem Room.call {A:Around} {env:Env} (h:Room (n+1) A):Room n (A.deeper env) :=
 ⟨h.handled,by have:=h.depth;show A.depth+1+4*n<900;exact o2 _ _ this,by have:=h.units;show A.units+3+30*n<9000;exact o3 _ _ this⟩
theorem Room.in1 {A:Around} (h:Room (n+1) A):Room n A.in1 :=
 ⟨h.handled,by have:=h.depth;show A.depth+4*n<900;exact o4 _ _ this,by have:=h.units;show A.units+1+30*n<9000;exact o5 _ _ this⟩
theorem Room.lim {A:Around} (h:Room n A):A.depth<recursionLimit:=by have:=h.depth;unfold recursionLimit;exact o6 _ _ this
noncomputable def kl (Q:CV->Sto->Prop):CF->Loc->Sto->Prop:=fun f _ σ=>match f with
 | .ret v=>Q v σ
 | _=>Q .none σ
theorem u6 {Q:CV->Sto->Prop} {env':Env} {own':List Addr} {ρ0:Loc} {body:List Stmt} {A':Around} {s s₁:Shared} (h:WSS c n env' own' body (kl Q) ρ0 σ) (hR:Room n A') (G:SG c σ s₁) (F:FR c env' own' ρ0 σ s₁.heap)
  (K:Keep σ [] s.heap s₁.heap σ) (hown:∀ a∈own',s.heap.get? a=none) {E:Value->Shared->Prop} :
  wpAny (model c.prog c.w) A' (execs body env') (fun f s'=>PG c VR Q σ s (match f with | .ret v=>v | _=>.none) s') E s₁ :=
 wgo (h.go A' s₁ hR G F) (fun f s' g ρ' σ' r G' F' K' q=>by
  have K2:Keep σ [] s.heap s'.heap σ':=fun b o e nb hb =>
   let ⟨e₁,n₁⟩:=K b o e nb hb
   K' b o e₁ n₁ fun z=>(by have:=hown b z;rw [e] at this;cases this)
  cases g with
  | next=>obtain rfl:=r;exact ⟨.none,σ',rfl,G',K2,q⟩
  | brk=>obtain rfl:=r;exact ⟨.none,σ',rfl,G',K2,q⟩
  | cont=>obtain rfl:=r;exact ⟨.none,σ',rfl,G',K2,q⟩
  | ret v=>refine za (r) ?_;rintro w rfl r;exact ⟨v,σ',r,G',K2,q⟩)
noncomputable def OCd (c:Cx) (n:Nat) (args:List CV) (f:Value) (Q:CV->Sto->Prop) (σ:Sto):Prop :=
 ∀ A s vals,Room n A->SG c σ s->VRs s.heap args vals->codeAny (model c.prog c.w) A (.call f ⟨vals,[]⟩) (fun r s'=>match r with | .ok (.ret v)=>PG c VR Q σ s v s' | .ok _=>False | .error e=>Ef e s') s
theorem OCd.ow {args:List CV} {f:Value} {Q:CV->Sto->Prop} (h:OCd c n args f Q σ):OW c n VR args (zQ f) Q σ :=
 .mk fun A s vals hR G V=>wpAny_call (h A s vals hR G V)
theorem jW {fa:Addr} {name qual:Str} {params:Arguments} {body:List Stmt} {scope:Scope} {dV kV doc pm cdv ct oc:Value} {an od:Option Addr} {osl:Array (Option Value)} {args:List CV} {Q:CV->Sto->Prop}
  (ho:c.K.lookup fa=some ⟨oc,od,.func (fnOf name qual params body scope dV kV doc pm an cdv ct),osl⟩) (hcd:codeIn c.K cdv qual=true) (ρ0:Loc)
  (hbind:∀ (s:Shared) vals,c.K.In s.heap->VRs s.heap args vals->∃ binds,BindsTo s (fnOf name qual params body scope dV kV doc pm an cdv ct) ⟨vals,[]⟩ binds/\Binds s.heap ρ0 binds)
  (hnd:(ρ0.map (·.1)).Nodup) (hloc:(ρ0.all fun y=>scope.names.lookup y.1==some .local)=true)
  (hcell:(scope.names.all fun x=>x.2 != .cell)=true) (hco:scope.isCoroutine=false) (hgen:scope.isGenerator=false) (hk:scope.kind=.function)
  (h:∀ L,WSS c n (envOf qual scope L fa cdv) [L] body (kl Q) ρ0 σ):OCd c (n+1) args (.ref fa) Q σ:=by
 intro A s vals hR G V
 have X:=c.X.keeps G.base
 refine za (hbind s vals X V) ?_;intro binds hb B
 have hnm:=B.names
 refine (codeAny_call_def (fd:=fnOf name qual params body scope dV kV doc pm an cdv ct) (body:=body) (binds:=binds) hR.lim (X _ _ ho) rfl (c.T.nolimit.keeps G.base) (codeRec_of X hcd) rfl hb
  (fun x hx=>by have:=List.all_eq_true.mp hcell x hx;simpa using this) (fun x hx=>?_) (fun h₁ hns hk₁=>?_) hco hgen hk)
 ·have:x.1∈ρ0.map (·.1):=hnm ▸ List.mem_map_of_mem hx
  refine za (List.mem_map.mp this) ?_;intro y hy e
  have:=List.all_eq_true.mp hloc y hy
  rw [← e];exact beq_iff_eq.mp this
 ·refine zh (G.grow (h':=h₁) (t:=s.toks+binds.length) hk₁) ?_;intro G1 K1 T1
  refine u6 (h s.heap.objs.size) hR.call G1 ⟨hk,rfl,rfl,(z0 _ hns (fun x cv a _=>?_)),fun x cv a b=>?_,fun x a e=>?_,fun x y a e=>?_,List.mem_singleton.mpr rfl,fun a ha=>?_⟩ K1 (fun a ha=>?_)
  ·refine za (B.get a) ?_;intro v e r
   refine (z0 v (?_) (r.mono T1))
   rw [wM (by rw [hnm];exact hnd)];exact e
  ·exfalso
   have:x∈ρ0.map (·.1):=by
    refine za (B.get a) ?_;intro v e _
    rw [← hnm];exact List.mem_map_of_mem (PySem.mem_of_lookup e)
   refine za (List.mem_map.mp this) ?_;intro y hy e
   have:=List.all_eq_true.mp hloc y hy
   exact b (by rw [← e];exact beq_iff_eq.mp this)
  ·cases e
  ·cases e
  ·rw [List.mem_singleton] at ha;subst ha
   refine ym (hns) ?_;intro o es ep hoo hd _
   exact ⟨G.top (Nat.le_refl _),G.topB (Nat.le_refl _),(z0 o hoo (fun its k z=>by rw [hd] at z;cases z))⟩
  ·rw [List.mem_singleton] at ha;subst ha
   cases e:s.heap.get? s.heap.objs.size with
   | none=>rfl
   | some o=>exact absurd (Heap.lt_size e) (Nat.lt_irrefl _)
theorem tP (kindOf:Str->Option NameKind) (x:Str) (hx:kindOf x=some .local):∀ (bs:List (Str × Value)) (m:Str->Option Value),(bs.map (·.1)).Nodup->bindL kindOf bs m x=(bs.lookup x).or (m x)
 | [],m,_=>by simp [bindL]
 | (k,v)::r,m,hn=>by
  simp only [List.map_cons,List.nodup_cons] at hn
  rw [bindL,tP kindOf x hx r _ hn.2,List.lookup_cons]
  by_cases q:x=k
  ·subst q;rw [if_pos hx,yr hn.1];simp
  ·rw [beq_eq_false_iff_ne.mpr q]
   by_cases hk:kindOf k=some .local
   ·rw [if_pos hk];simp [q]
   ·rw [if_neg hk]
theorem tQ (kindOf:Str->Option NameKind) (x:Str) (hx:kindOf x≠some .local):∀ (bs:List (Str × Value)) (m:Str->Option Value),(bs.map (·.1)).Nodup->bindC kindOf bs m x=(bs.lookup x).or (m x)
 | [],m,_=>by simp [bindC]
 | (k,v)::r,m,hn=>by
  simp only [List.map_cons,List.nodup_cons] at hn
  rw [bindC,tQ kindOf x hx r _ hn.2,List.lookup_cons]
  by_cases q:x=k
  ·subst q;rw [if_neg hx,yr hn.1];simp
  ·rw [beq_eq_false_iff_ne.mpr q]
   by_cases hk:kindOf k=some .local
   ·rw [if_pos hk]
   ·rw [if_neg hk];simp [q]
noncomputable def iX (scope:Scope) (L:Addr):List Addr:=L::scope.names.filterMap fun x=>(cellsFrom (L+1) scope.names []).lookup x.1
noncomputable def gy (ρ0:Loc) (k:ScopeKind) (names:List (Str × NameKind)) (g co:Bool):Bool:=decide (ρ0.map (·.1)).Nodup&&(ρ0.all (fun y=>names.lookup y.1==some .local)&&(names.all (fun x=>x.2 != .cell)&&(!co&&(!g&&decide (k=.function)))))
theorem ntB {b:Bool} (h:(!b)=true):b=false:=by cases b with | true=>exact Bool.noConfusion h | false=>rfl
theorem wfD {fa:Addr} {name qual:Str} {p1 p2 p4:List Arg} {p3 p6:Option Arg} {p5:List (Option Expr)} {p7:List Expr} {b:Stmt} {bs:List Stmt} {k:ScopeKind} {names:List (Str × NameKind)} {g co:Bool} {mo:List (Str × Const)} {dV kV doc pm cdv ct oc:Value} {an od:Option Addr} {osl:Array (Option Value)} {args:List CV} {Q:CV->Sto->Prop}
  (ho:c.K.lookup fa=some ⟨oc,od,.func (fnOf name qual ⟨p1,p2,p3,p4,p5,p6,p7⟩ (b::bs) ⟨k,names,g,co,mo⟩ dV kV doc pm an cdv ct),osl⟩) (hcd:codeIn c.K cdv qual=true) (ρ0:Loc)
  (hbind:∀ (s:Shared) vals,c.K.In s.heap->VRs s.heap args vals->∃ binds,BindsTo s (fnOf name qual ⟨p1,p2,p3,p4,p5,p6,p7⟩ (b::bs) ⟨k,names,g,co,mo⟩ dV kV doc pm an cdv ct) ⟨vals,[]⟩ binds/\Binds s.heap ρ0 binds)
  (hall:gy ρ0 k names g co=true)
  (h:∀ L,WSS c n (envOf qual ⟨k,names,g,co,mo⟩ L fa cdv) [L] (b::bs) (kl Q) ρ0 σ):OCd c (n+1) args (.ref fa) Q σ :=
 jW ho hcd ρ0 hbind (of_decide_eq_true (an1 hall)) (an1 (an2 hall)) (an1 (an2 (an2 hall))) (ntB (an1 (an2 (an2 (an2 hall))))) (ntB (an1 (an2 (an2 (an2 (an2 hall)))))) (of_decide_eq_true (an2 (an2 (an2 (an2 (an2 hall)))))) h
theorem km {fa:Addr} {name qual:Str} {params:Arguments} {body:List Stmt} {scope:Scope} {dV kV doc pm cdv ct oc:Value} {an od:Option Addr} {osl:Array (Option Value)} {args:List CV} {Q:CV->Sto->Prop}
  (ho:c.K.lookup fa=some ⟨oc,od,.func (fnOf name qual params body scope dV kV doc pm an cdv ct),osl⟩) (hcd:codeIn c.K cdv qual=true) (ρ0:Loc)
  (hbind:∀ (s:Shared) vals,VRs s.heap args vals->∃ binds,bindArgs (fnOf name qual params body scope dV kV doc pm an cdv ct) ⟨vals,[]⟩=pure binds/\Binds s.heap ρ0 binds)
  (hnd:(ρ0.map (·.1)).Nodup) (hloc:∀ L,(ρ0.all fun y=>scope.names.lookup y.1==some .local || (scope.names.lookup y.1==some .cell&&((cellsFrom (L+1) scope.names []).lookup y.1).isSome))=true)
  (hco:scope.isCoroutine=false) (hgen:scope.isGenerator=false) (hk:scope.kind=.function)
  (h:∀ L,WSS c n (envOfC qual scope L fa cdv) (iX scope L) body (kl Q) ρ0 σ):OCd c (n+1) args (.ref fa) Q σ:=by
 intro A s vals hR G V
 have X:=c.X.keeps G.base
 refine za (hbind s vals V) ?_;intro binds hb B
 have hnm:=B.names
 have hin:∀ x∈binds,∃ y∈ρ0,y.1=x.1:=fun x hx=>by
  have:x.1∈ρ0.map (·.1):=hnm ▸ List.mem_map_of_mem hx
  refine za (List.mem_map.mp this) ?_;intro y hy e
  exact (z0 y hy e)
 have hkinds:∀ L,∀ x∈binds,scope.names.lookup x.1=some .local∨(scope.names.lookup x.1=some .cell/\((cellsFrom (L+1) scope.names []).lookup x.1).isSome=true):=fun L x hx=>by
  refine za (hin x hx) ?_;intro y hy e
  have:=List.all_eq_true.mp (hloc L) y hy
  rw [← e]
  simpa [Bool.or_eq_true,Bool.and_eq_true] using this
 refine (codeAny_call_cells (fd:=fnOf name qual params body scope dV kV doc pm an cdv ct) (body:=body) (binds:=binds) hR.lim (X _ _ ho) rfl (c.T.nolimit.keeps G.base) (codeRec_of X hcd) rfl hb rfl
  (hkinds _) (fun s₁ x=>?_) hco hgen hk)
 have hk₁:=x.toInCall.keep
 refine zL (x.toInCall.same) ?_;intro h₁ tk hs₁
 subst hs₁
 refine zh (G.grow (h':=h₁) (t:=tk) hk₁) ?_;intro G1 K1 T1
 have habove:∀ y a,(cellsFrom (s.heap.objs.size+1) scope.names []).lookup y=some a->s.heap.objs.size<a:=fun y a e=>x.above y a (PySem.mem_of_lookup e)
 refine u6 (h s.heap.objs.size) hR.call G1 ⟨hk,rfl,rfl,(z0 _ x.toInCall.ns (fun y cv a b=>?_)),fun y cv a b=>?_,fun y a e=>?_,fun y z a e f=>?_,List.mem_cons_self,fun a ha=>?_⟩ K1 (fun a ha=>?_)
 ·refine za (B.get a) ?_;intro v e r
  refine (z0 v (?_) (r.mono T1))
  exact (tP _ _ b _ _ (by rw [hnm];exact hnd)).trans (by rw [e];rfl)
 ·refine za (B.get a) ?_;intro v e r
  have hcl:=(hkinds s.heap.objs.size (y,v) (PySem.mem_of_lookup e)).resolve_left b
  obtain ⟨ad,had⟩:=Option.isSome_iff_exists.mp hcl.2
  refine (zj ad v had (?_) (r.mono T1))
  have hcm:=x.cell y ad had
  have hbc:=(tQ (envOfC qual scope s.heap.objs.size fa cdv).kindOf y b binds (fun _=>none) (by rw [hnm];exact hnd)).trans (show _=some v by rw [e];simp)
  exact hbc ▸ hcm
 ·exact ⟨G.top (Nat.le_of_lt (habove y a e)),_,x.cell y a e⟩
 ·exact PySem.name_of_addr x.apart (PySem.mem_of_lookup e) (PySem.mem_of_lookup f)
 ·rcases List.mem_cons.mp ha with rfl | ha
  ·refine ym (x.toInCall.ns) ?_;intro o es ep hoo hd _
   exact ⟨G.top (Nat.le_refl _),G.topB (Nat.le_refl _),(z0 o hoo (fun its k z=>by rw [hd] at z;cases z))⟩
  ·refine za (List.mem_filterMap.mp ha) ?_;intro q32 hy e;obtain ⟨y,kd⟩:=q32
   have hlt:=habove y a e
   refine za (x.cell y a e) ?_;intro o hoo hd
   exact ⟨G.top (Nat.le_of_lt hlt),G.topB (Nat.le_of_lt hlt),(z0 o hoo (fun its k q=>by rw [hd] at q;cases q))⟩
 ·have hge:s.heap.objs.size<=a:=by
   rcases List.mem_cons.mp ha with rfl | ha
   ·exact Nat.le_refl _
   ·refine za (List.mem_filterMap.mp ha) ?_;intro q33 hy e;obtain ⟨y,kd⟩:=q33
    exact Nat.le_of_lt (habove y a e)
  cases e:s.heap.get? a with
  | none=>rfl
  | some o=>exact absurd (Heap.lt_size e) (Nat.not_lt.mpr hge)
noncomputable def jX (ρ0:Loc) (k:ScopeKind) (g co:Bool):Bool:=decide (ρ0.map (·.1)).Nodup&&(!co&&(!g&&decide (k=.function)))
theorem mF {fa:Addr} {name qual:Str} {p1 p2 p4:List Arg} {p3 p6:Option Arg} {p5:List (Option Expr)} {p7:List Expr} {b:Stmt} {bs:List Stmt} {k:ScopeKind} {names:List (Str × NameKind)} {g co:Bool} {mo:List (Str × Const)} {dV kV doc pm cdv ct oc:Value} {an od:Option Addr} {osl:Array (Option Value)} {args:List CV} {Q:CV->Sto->Prop}
  (ho:c.K.lookup fa=some ⟨oc,od,.func (fnOf name qual ⟨p1,p2,p3,p4,p5,p6,p7⟩ (b::bs) ⟨k,names,g,co,mo⟩ dV kV doc pm an cdv ct),osl⟩) (hcd:codeIn c.K cdv qual=true) (ρ0:Loc)
  (hbind:∀ (h:Heap) vals,VRs h args vals->∃ binds,bindArgs (fnOf name qual ⟨p1,p2,p3,p4,p5,p6,p7⟩ (b::bs) ⟨k,names,g,co,mo⟩ dV kV doc pm an cdv ct) ⟨vals,[]⟩=pure binds/\Binds h ρ0 binds)
  (hall:jX ρ0 k g co=true) (hloc:∀ L,(ρ0.all fun y=>names.lookup y.1==some .local || (names.lookup y.1==some .cell&&((cellsFrom (L+1) names []).lookup y.1).isSome))=true)
  (h:∀ L,WSS c n (envOfC qual ⟨k,names,g,co,mo⟩ L fa cdv) (iX ⟨k,names,g,co,mo⟩ L) (b::bs) (kl Q) ρ0 σ):OCd c (n+1) args (.ref fa) Q σ :=
 km ho hcd ρ0 (fun s=>hbind s.heap) (of_decide_eq_true (an1 hall)) hloc (ntB (an1 (an2 hall))) (ntB (an1 (an2 (an2 hall)))) (of_decide_eq_true (an2 (an2 (an2 hall)))) h
end

theorem qa {h:Heap} {cv:CV} {v:Value} (r:VR h cv v):handedIn v=true:=by
 cases cv
 ·obtain rfl:=r;rfl
 ·obtain rfl:=r;rfl
 ·obtain ⟨t,rfl⟩:=r;rfl
 ·obtain ⟨t,rfl⟩:=r;rfl
 ·refine y6 (r) ?_;intro a items q36 _;obtain rfl:=q36;rfl
 ·obtain rfl:=r;rfl
noncomputable def wj (K:Frag) (C:Addr) (name:Str):Bool:=plainGet K C name&&hasDictIn K C&&findIn K (.ref C) name==some none
noncomputable def pH (K:Frag) (C:Addr) (name:Str):Bool :=
 findIn K (.ref C) "__setattr__"==some (some (.builtin "object.__setattr__"))&&plainOver K C&&takerIn K C name==some none&&hasDictIn K C
noncomputable def wW (K:Frag) (C:Addr) (name:Str) (f:Addr):Bool:=plainGet K C name&&findIn K (.ref C) name==some (some (.ref f))&&isFn K (.ref f)
noncomputable def others (h:Heap) (x y:Addr):List (Addr × Obj):=(List.range h.objs.size).filterMap fun a=>if a=x∨a=y then none else (h.get? a).map fun o=>(a,o)
theorem sT {h:Heap} {x y a:Addr} {o:Obj} (e:h.get? a=some o) (hx:a≠x) (hy:a≠y):(a,o)∈others h x y :=
 List.mem_filterMap.mpr (z0 a (List.mem_range.mpr (Heap.lt_size e)) (by simp [hx,hy,e]))
theorem u7 {h:Heap} {x y:Addr} {p:Addr × Obj} (hp:p∈others h x y):h.get? p.1=some p.2/\p.1≠x/\p.1≠y:=by
 refine za (List.mem_filterMap.mp hp) ?_;intro a _ e
 by_cases q:a=x∨a=y
 ·rw [if_pos q] at e;cases e
 ·rw [if_neg q] at e
  refine za (Option.map_eq_some_iff.mp e) ?_;intro o ho q37;obtain rfl:=q37
  exact ⟨ho,fun z=>q (.inl z),fun z=>q (.inr z)⟩
theorem vg {es:List DictEntry} (hp:(es.any fun e=>e.refKey)=false) (name:Str):getL name es=some (fnd es name):=by
 unfold getL fnd
 cases h:es.find? fun e=>e.key.isStr name with
 | some e=>rfl
 | none=>simp [hp]
theorem xP (name:Str) (hsh:Int) (t:Tok) (v:Value):∀ es:List DictEntry,fnd (putL name hsh (.str name t) v es) name=some v
 | []=>by simp [putL,fnd,Value.isStr]
 | e::r=>by
  have ih:=xP name hsh t v r
  unfold fnd at ih ⊢
  by_cases h:e.key.isStr name=true
  ·simp [putL,h]
  ·simp only [putL,h,if_false,Bool.false_eq_true,List.find?_cons]
   exact ih
theorem xB {name other:Str} (hne:other≠name) (hsh:Int) (t:Tok) (v:Value):∀ es:List DictEntry,fnd (putL name hsh (.str name t) v es) other=fnd es other
 | []=>by
  have hq:(name==other)=false:=beq_eq_false_iff_ne.mpr fun e=>hne e.symm
  simp [putL,fnd,Value.isStr,hq]
 | e::r=>by
  have ih:=xB hne hsh t v r
  unfold fnd at ih ⊢
  by_cases h:e.key.isStr name=true
  ·have hq:e.key.isStr other=false:=by
    cases hh:e.key.isStr other with
    | false=>rfl
    | true=>exact absurd (Value.isStr_inj _ _ _ hh h) hne
   simp [putL,h,hq]
  ·simp only [putL,h,if_false,Bool.false_eq_true,List.find?_cons]
   cases hq:e.key.isStr other with
   | true=>rfl
   | false=>exact ih
theorem u8 (name:Str) (hsh:Int) (t:Tok) (v:Value):∀ es:List DictEntry,(es.any fun e=>e.refKey)=false->((putL name hsh (.str name t) v es).any fun e=>e.refKey)=false
 | [],_=>by simp [putL,DictEntry.refKey]
 | e::r,h=>by
  simp only [List.any_cons,Bool.or_eq_false_iff] at h
  simp only [putL]
  split
  ·simp only [List.any_cons,h.2,Bool.or_false];exact h.1
  ·simp only [List.any_cons,h.1,Bool.false_or];exact u8 name hsh t v r h.2
theorem xa (name:Str) (hsh:Int) (k v:Value):∀ es:List DictEntry,(putL name hsh k v es).length<=es.length+1
 | []=>by simp [putL]
 | e::r=>by
  simp only [putL]
  split
  ·simp
  ·have:=xa name hsh k v r;simp only [List.length_cons];exact o7 _ _ this
theorem x6 (name:Str) (hsh:Int) (k v:Value):∀ es:List DictEntry,(es.any fun e=>e.key.isStr name)=true->(putL name hsh k v es).length=es.length
 | [],h=>by simp at h
 | e::r,h=>by
  simp only [putL]
  split
  ·simp
  ·rename_i q
   have q':e.key.isStr name=false:=by simpa using q
   simp only [List.any_cons,q',Bool.false_or] at h
   simp [x6 name hsh k v r h]
theorem xj:∀ (ρ:Loc) (x:Str) (v:CV),ρ.length<=(put ρ x v).length
 | [],_,_=>by simp [put]
 | (y,w)::r,x,v=>by simp only [put];split <;> simp [xj r x v]
theorem x7:∀ (ρ:Loc) (x:Str) (v:CV),ρ.lookup x=none->(put ρ x v).length=ρ.length+1
 | [],_,_,_=>by simp [put]
 | (y,w)::r,x,v,h=>by
  rw [List.lookup_cons] at h
  by_cases q:y=x
  ·subst q;simp at h
  ·have:(x==y)=false:=beq_eq_false_iff_ne.mpr fun e=>q e.symm
   rw [this] at h
   simp [put,q,x7 r x v h]
theorem AttrsRel.put {h:Heap} {es:List DictEntry} {fs:List (Str × CV)} (x:AttrsRel h es fs) {name:Str} {cv:CV} {v:Value} (r:VR h cv v) (hsh:Int) (t:Tok):AttrsRel h (putL name hsh (.str name t) v es) (put fs name cv):=by
 refine ⟨u8 name hsh t v es x.plain,fun other=>?_⟩
 rw [zW]
 by_cases q:other=name
 ·subst q;simp only [if_true];exact (z0 v (xP other hsh t v es) r)
 ·rw [if_neg q]
  have:=x.at_ other
  split at this
  ·refine za (this) ?_;intro w a b;exact (z0 w ((xB q hsh t v es).trans a) b)
  ·exact (xB q hsh t v es).trans this
section
variable {c:Cx} {n:Nat} {env:Env} {own:List Addr} {ρ:Loc} {σ:Sto}
theorem qb {s:Shared} {x C dx:Addr} {fs:List (Str × CV)} (G:SG c σ s) (hx:σ x=some (.inst C dx)) (hd:σ dx=some (.attrs fs)) :
  ∃ es k,PySem.W.InstAt s.heap x (instObj C dx) C (some (dictOf es k))/\AttrsRel s.heap es fs/\es.length<=fs.length/\s.heap.get? dx=some (dictOf es k):=by
 have h1:s.heap.get? x=some (instObj C dx):=G.rep x _ hx
 refine zg (G.rep dx _ hd) ?_;intro es k h2 r l
 exact (zH es k (⟨h1,rfl,rfl,h2⟩) r l h2)
theorem pI {x C dx:Addr} {fs:List (Str × CV)} {name:Str} {cv:CV} {ex:Bool} {A:Around} {s:Shared} {P:Value->Shared->Prop} {E:Value->Shared->Prop} (G:SG c σ s) (hx:σ x=some (.inst C dx)) (hd:σ dx=some (.attrs fs)) (ok:wj c.K C name=true) (hl:fs.lookup name=some cv)
  (h:∀ v,VR s.heap cv v->P v { s with toks:=s.toks+1 }):wpAny (model c.prog c.w) A (getAttr (.ref x) name ex) P E s:=by
 refine zM (qb G hx hd) ?_;intro es k I r _ _
 unfold wj at ok
 simp only [Bool.and_eq_true,beq_iff_eq] at ok
 obtain ⟨⟨o1,o2⟩,o3⟩:=ok
 have hr:=r.at_ name
 rw [hl] at hr
 refine za (hr) ?_;intro v e rv
 exact get_value (c.X.keeps G.base) I (plainGet_of o1).1 (findObj_own o2 o3 rfl (by rw [lookIn_dict,vg r.plain,e])) (qa rv) (h v rv)
theorem jY {o:Expr} {attr:Str} {pos:Pos} {Q:CV->Sto->Prop} (hb:attributeBase o attr env (eval o env)=eval o env)
  (h:WE c n env own o (fun ov σ₁=>∃ x C dx fs cv,ov=.ref x/\σ₁ x=some (.inst C dx)/\σ₁ dx=some (.attrs fs)/\wj c.K C attr=true/\fs.lookup attr=some cv/\Q cv σ₁) ρ σ):WE c n env own (.Attribute o attr pos) Q ρ σ :=
 .mk fun A s hR G F=>by
  rw [arm_eval_Attribute,hb]
  refine wpAny_bind (h.on0 hR G F (fun ov s₁ g σ₁ r G1 F₁ K1 q0=>?_))
  refine wR q0 ?_;intro x C dx fs cv e hx hd ok hl q
  subst e
  obtain rfl:=r
  refine wpAny_bind (wpAny_standAt (wpAny_bind (wpAny_holding (pI G1 hx hd ok hl fun v rv=>?_))))
  exact wpAny_bind (wpAny_letTemporaryGo (wpAny_pure (PE.trans K1 (PE.ofE G1 F₁ (g:=cv) rv ⟨rfl,q⟩))))
theorem zw {x C dx f:Addr} {fs:List (Str × CV)} {name:Str} (hx:σ x=some (.inst C dx)) (hd:σ dx=some (.attrs fs)) (ok:wW c.K C name f=true) (hl:fs.lookup name=none):yb c (.ref x) name (.ref f) σ:=by
 intro A s w pl P G r hP
 obtain rfl:=r
 refine zM (qb G hx hd) ?_;intro es k I ra _ _
 unfold wW at ok
 simp only [Bool.and_eq_true,beq_iff_eq] at ok
 obtain ⟨⟨o1,o2⟩,o3⟩:=ok
 have hr:=ra.at_ name
 rw [hl] at hr
 exact method_fn (c.X.keeps G.base) I (plainGet_of o1).1 (plainGet_of o1).2 o2 (beq_iff_eq.mp o3) (by show (lookIn name (dictOf es k)).map _=_;rw [lookIn_dict,vg ra.plain,hr];rfl) hP
theorem xY {a:Addr} {xs:List CV} {name:Str} {id:String} (ha:σ a=some (.list xs)) (slot:Slot "list" name id) (hty:typeOf (.builtin id)=pure (.type "method_descriptor")):yb c (.ref a) name (.builtin id) σ:=by
 intro A s w pl P G r hP
 obtain rfl:=r
 refine za (G.rep a _ ha) ?_;intro items q40 _;obtain ⟨k,e⟩:=q40
 exact getMethod_builtin (z0 _ e rfl) PySem.F.plainAttrs_list slot hty (fun b hb=>by cases hb;exact (z0 _ e rfl)) hP
theorem qc {a:Addr} {es:List (Str × CV)} {ep:Nat} {name:Str} {id:String} (ha:σ a=some (.sdict es ep)) (slot:Slot "dict" name id) (hty:typeOf (.builtin id)=pure (.type "method_descriptor")):yb c (.ref a) name (.builtin id) σ:=by
 intro A s w pl P G r hP
 obtain rfl:=r
 refine za (G.rep a _ ha) ?_;intro kvs q41 _;refine zg (q41) ?_;intro o es' e q42 _;refine zh (q42) ?_;intro x1 x2 x3
 exact getMethod_builtin (z0 _ e x1) PySem.F.plainAttrs_dict slot hty (fun b hb=>by cases hb;exact (z0 _ e x2)) hP
theorem qd {a:Addr} {es:List (Int × CV)} {ep:Nat} {name:Str} {id:String} (ha:σ a=some (.idict es ep)) (slot:Slot "dict" name id) (hty:typeOf (.builtin id)=pure (.type "method_descriptor")):yb c (.ref a) name (.builtin id) σ:=by
 intro A s w pl P G r hP
 obtain rfl:=r
 refine za (G.rep a _ ha) ?_;intro kvs q43 _;refine zg (q43) ?_;intro o es' e q44 _;refine zh (q44) ?_;intro x1 x2 x3
 exact getMethod_builtin (z0 _ e x1) PySem.F.plainAttrs_dict slot hty (fun b hb=>by cases hb;exact (z0 _ e x2)) hP
theorem kn {o:Expr} {attr:Str} {pos:Pos} {v:CV} {Q:Loc->Sto->Prop}
  (h:WE c n env own o (fun ov σ₁=>∃ x C dx fs,ov=.ref x/\σ₁ x=some (.inst C dx)/\σ₁ dx=some (.attrs fs)/\pH c.K C attr=true/\fs.length<90/\Q ρ (upd σ₁ dx (.attrs (put fs attr v)))) ρ σ):WA c n env own (.Attribute o attr pos) v Q ρ σ :=
 .mk fun A s w hR G F rw_=>by
  show wpAny _ _ (do let ov ← holding [w] (eval o env);standAt pos.atName;holding [w,ov] (setAttr ov attr w);release [w,ov] []) _ _ _
  refine wpAny_bind (wpAny_holding (h.on0 hR G F (fun ov s₁ g σ₁ r G1 F₁ K1 q0=>?_)))
  refine rS q0 ?_;intro x C dx fs e hx hd ok hlen q
  subst e
  obtain rfl:=r
  have rw1:=rw_.mono (G.stayF F K1)
  refine wpAny_bind (wpAny_standAt (wpAny_bind (wpAny_holding ?_)))
  refine zM (qb G1 hx hd) ?_;intro es k I ra hle hdx
  unfold pH at ok
  simp only [Bool.and_eq_true,beq_iff_eq] at ok
  obtain ⟨⟨⟨o1,o2⟩,o3⟩,o4⟩:=ok
  refine za (F₁.ns) ?_;intro m hns hm
  have X:=c.X.keeps G1.base
  have hLdx:env.locals≠dx:=fun z=>by have:=(F₁.ownok _ F₁.lown).1;rw [z,hd] at this;cases this
  have hl:(getL attr es).isSome=true:=by rw [vg ra.plain];rfl
  have Fr0:Fr {} env.locals s₁.heap m:=⟨hns,fun b o e=>by simp [Heap.get?] at e,Nat.zero_le _⟩
  have N₀:News {} env.locals s₁.heap ([]++(dx,dictOf es k)::others s₁.heap env.locals dx):=fun p hp=>by
   rcases List.mem_cons.mp hp with rfl | hp
   ·exact ⟨hdx,fun z=>hLdx z.symm,by simp [Heap.get?]⟩
   ·refine zh (u7 hp) ?_;intro a b d
    exact ⟨a,b,by simp [Heap.get?]⟩
  refine set_plain X I o1 (osa_dict (s:={ s₁ with toks:=s₁.toks+1 }) (A:=A) (R:=_) Fr0 N₀ X I rfl o2 o3 o4 hl (fun _ hp=>nomatch hp) (fun p hp=>(u7 hp).2.2) (by rw [putName_dict]) rfl ?_ fun h' F' N'=>?_)
  ·have:=xa attr (PyData.keyHash c.w.params attr) (.str attr (s₁.toks+1)) w es;show (putL _ _ _ _ _).length<=1000;have:(putL attr (PyData.keyHash c.w.params attr) (.str attr (s₁.toks+1)) w es).length<=es.length+1:=this;exact Nat.le_trans this (o8 _ _ hle hlen)
  ·have Kh:∀ b o,s₁.heap.get? b=some o->b≠dx->b∉[env.locals]->h'.get? b=some o:=fun b o e nb nl=>by
    have:(b,o)∈others s₁.heap env.locals dx:=sT e (by simpa using nl) nb
    exact (N' (b,o) (by simp [this])).1
   have hdx':h'.get? dx=some (dictOf (putL attr (PyData.keyHash c.w.params attr) (.str attr (s₁.toks+1)) w es) (putN attr es k)):=(N' _ (List.mem_append_right _ List.mem_cons_self)).1
   have hlen':(putL attr (PyData.keyHash c.w.params attr) (.str attr (s₁.toks+1)) w es).length<=(put fs attr v).length:=by
    cases hq:fs.lookup attr with
    | none=>have:=x7 fs attr v hq;have:=xa attr (PyData.keyHash c.w.params attr) (.str attr (s₁.toks+1)) w es;exact o9 _ _ _ _ this (by assumption) hle
    | some cv =>
     have hf:=ra.at_ attr
     rw [hq] at hf
     refine za (hf) ?_;intro v' e _
     have hany:(es.any fun e=>e.key.isStr attr)=true:=by
      unfold fnd at e
      refine za (Option.map_eq_some_iff.mp e) ?_;intro en he _
      exact List.any_eq_true.mpr (z0 en (List.mem_of_find?_eq_some he) ((by have:=List.find?_some (p:=fun e:DictEntry=>e.key.isStr attr) he;exact this)))
     rw [x6 _ _ _ _ _ hany]
     exact Nat.le_trans hle (xj ..)
   refine zh (G1.upd (h':=h') (t:=s₁.toks+1+1) (own:=[env.locals]) (co':=.attrs (put fs attr v)) hd (fun a ha=>by rw [List.mem_singleton] at ha;subst ha;exact F₁.ownok _ F₁.lown) Kh (fun T=>(zj _ _ hdx' ((ra.mono T).put (rw1.mono T) _ _) hlen'))) ?_;intro G2 K2 T₂
   ·refine wpAny_release ?_
    refine ⟨(),ρ,_,trivial,G2,⟨F₁.kind,F₁.glob,F₁.built,(z0 m F'.ns (fun y cv a b=>?_)),fun y cv a b=>?_,fun y a hy=>?_,F₁.apart,F₁.lown,fun a ha=>?_⟩,K1.trans (K2.own fun a ha=>by rw [List.mem_singleton] at ha;subst ha;exact F₁.lown),q⟩
    ·refine za (hm y cv a b) ?_;intro u hu r;exact (z0 u hu (r.mono T₂))
    ·refine zg (F₁.cell y cv a b) ?_;intro ad u hc q47 r;refine za (q47) ?_;intro o ho hdd
     have h1:ad≠dx:=fun z=>by have:=(F₁.alive y ad hc).1;rw [z,hd] at this;cases this
     exact (zj ad u hc ((z0 o (Kh ad o ho h1 (by simp only [List.mem_singleton];rintro rfl;exact yt hns (z0 o ho hdd))) hdd)) (r.mono T₂))
    ·obtain ⟨nn,q48⟩:=F₁.alive y a hy;refine y6 (q48) ?_;intro v₀ o ho hdd
     have h1:a≠dx:=fun z=>by rw [z,hd] at nn;cases nn
     exact ⟨by rw [zB h1];exact nn,(zV v₀ o (Kh a o ho h1 (by simp only [List.mem_singleton];rintro rfl;exact yt hns (z0 o ho hdd))) hdd)⟩
    ·refine zh (F₁.ownok a ha) ?_;intro z1 z2 q49;refine za (q49) ?_;intro o z3 z4
     have h1:a≠dx:=fun z=>by rw [z,hd] at z1;cases z1
     refine ⟨by rw [zB h1];exact z1,z2,?_⟩
     by_cases q:a=env.locals
     ·subst q
      refine ym (F'.ns) ?_;intro o' es' ep' ho' hd' _
      exact (z0 o' ho' (fun its kk z=>by rw [hd'] at z;cases z))
     ·exact (z0 o (Kh a o z3 h1 (by simpa using q)) z4)
end

section
variable {c:Cx} {n:Nat} {env:Env} {own:List Addr} {ρ:Loc} {σ:Sto} {Q:CV->Sto->Prop}
theorem ow1 {α γ:Type} {R:Heap->γ->α->Prop} {a:CV} {f:List Value->Sem α} {Q:γ->Sto->Prop} (h:∀ A s v,Room n A->SG c σ s->VR s.heap a v->wpAny (model c.prog c.w) A (f [v]) (PG c R Q σ s) Ef s):OW c n R [a] f Q σ:=by
 refine ⟨fun A s vals hR G V=>?_⟩
 refine zg (V.inv) ?_;rintro v r rfl h1 V
 obtain rfl:=VRs.nil_iff.mp V
 exact h A s v hR G h1
theorem ow2 {α γ:Type} {R:Heap->γ->α->Prop} {a b:CV} {f:List Value->Sem α} {Q:γ->Sto->Prop} (h:∀ A s v w,Room n A->SG c σ s->VR s.heap a v->VR s.heap b w->wpAny (model c.prog c.w) A (f [v,w]) (PG c R Q σ s) Ef s):OW c n R [a,b] f Q σ:=by
 refine ⟨fun A s vals hR G V=>?_⟩
 refine zg (V.inv) ?_;rintro v r rfl h1 V
 refine zg (V.inv) ?_;rintro w r rfl h2 V
 obtain rfl:=VRs.nil_iff.mp V
 exact h A s v w hR G h1 h2
theorem ow3 {α γ:Type} {R:Heap->γ->α->Prop} {a b d:CV} {f:List Value->Sem α} {Q:γ->Sto->Prop} (h:∀ A s v w x,Room n A->SG c σ s->VR s.heap a v->VR s.heap b w->VR s.heap d x->wpAny (model c.prog c.w) A (f [v,w,x]) (PG c R Q σ s) Ef s):OW c n R [a,b,d] f Q σ:=by
 refine ⟨fun A s vals hR G V=>?_⟩
 refine zg (V.inv) ?_;rintro v r rfl h1 V
 refine zg (V.inv) ?_;rintro w r rfl h2 V
 refine zg (V.inv) ?_;rintro x r rfl h3 V
 obtain rfl:=VRs.nil_iff.mp V
 exact h A s v w x hR G h1 h2 h3
theorem zz {h:Heap} {i:Int} {v:Value} (x:VR h (.int i) v):∃ t,v=.int i t:=x
theorem yN {h:Heap} {i:Str} {v:Value} (x:VR h (.str i) v):∃ t,v=.str i t:=x
theorem yO {h:Heap} {i:Bool} {v:Value} (x:VR h (.bool i) v):v=.bool i:=x
theorem xQ {h:Heap} {v:Value} (x:VR h .none v):v=.none:=x
theorem zO {h:Heap} {a:Addr} {v:Value} (x:VR h (.ref a) v):v=.ref a:=x
theorem xW {h:Heap} {xs:List CV} {v:Value} (x:VR h (.tup xs) v):∃ a items,v=.ref a/\pt h a items/\VRs h xs items.toList:=x
theorem isInt {h:Heap} {i:Int} {t:Tok}:VR h (.int i) (.int i t):=⟨t,rfl⟩
theorem isStr {h:Heap} {i:Str} {t:Tok}:VR h (.str i) (.str i t):=⟨t,rfl⟩
theorem zC {h:Heap} {b:Bool}:VR h (.bool b) (.bool b):=rfl
theorem wk {h:Heap} {a:Addr}:VR h (.ref a) (.ref a):=rfl
theorem qe {h:Heap}:VR h .none .none:=rfl
theorem gz {a b:Int} (h:Q (.int (a+b)) σ):OW c n VR [.int a,.int b] (bin .Add) Q σ :=
 ow2 fun A s v w _ G hv hw=>by obtain ⟨t,rfl⟩:=zz hv;obtain ⟨u,rfl⟩:=zz hw;exact add_int (PG.same G isInt h)
theorem gA {a b:Int} (h:Q (.int (a-b)) σ):OW c n VR [.int a,.int b] (bin .Sub) Q σ :=
 ow2 fun A s v w _ G hv hw=>by obtain ⟨t,rfl⟩:=zz hv;obtain ⟨u,rfl⟩:=zz hw;exact sub_int (PG.same G isInt h)
theorem lS {a b:Int} (hm:IntMulOk a b) (h:Q (.int (a*b)) σ):OW c n VR [.int a,.int b] (bin .Mult) Q σ :=
 ow2 fun A s v w _ G hv hw=>by obtain ⟨t,rfl⟩:=zz hv;obtain ⟨u,rfl⟩:=zz hw;exact mul_int (PG.same G isInt h) hm
theorem qf {a b:Int} (hb:b≠0) (h:Q (.int (a.fmod b)) σ):OW c n VR [.int a,.int b] (bin .Mod) Q σ :=
 ow2 fun A s v w _ G hv hw=>by obtain ⟨t,rfl⟩:=zz hv;obtain ⟨u,rfl⟩:=zz hw;exact PyProof.Rows.mod_int hb (PG.same G isInt h)
theorem jZ {a b:Int} (hb:b≠0) (hp:Builtin.divisionGoesByPylong a b=false) (h:Q (.int (a.fdiv b)) σ):OW c n VR [.int a,.int b] (bin .FloorDiv) Q σ :=
 ow2 fun A s v w _ G hv hw=>by obtain ⟨t,rfl⟩:=zz hv;obtain ⟨u,rfl⟩:=zz hw;exact PyProof.Rows.floordiv_int hb (PG.same G isInt h) (.inl hp)
theorem gB {a:Int} (h:Q (.int (-a)) σ):OW c n VR [.int a] (una .USub) Q σ :=
 ow1 fun A s v _ G hv=>by obtain ⟨t,rfl⟩:=zz hv;exact PyProof.Rows.neg_int (PG.same G isInt h)
theorem gC {b:Bool} (h:Q (.bool (!b)) σ):OW c n VR [.bool b] (una .Not) Q σ :=
 ow1 fun A s v _ G hv=>by obtain rfl:=yO hv;exact not_of (wpAny_truthy_bool (PG.same0 G zC h))
theorem i0 {b:Bool} {Q:Bool->Sto->Prop} (h:Q b σ):OW c n BR [.bool b] tru Q σ :=
 ow1 fun A s v _ G hv=>by obtain rfl:=yO hv;exact wpAny_truthy_bool (PG.same0 G rfl h)
theorem gD {a b:Int} (h:Q (.bool (a==b)) σ):OW c n VR [.int a,.int b] (cmp .Eq) Q σ :=
 ow2 fun A s v w _ G hv hw=>by obtain ⟨t,rfl⟩:=zz hv;obtain ⟨u,rfl⟩:=zz hw;exact eq_int (PG.same0 G zC h)
theorem gF {a b:Int} (h:Q (.bool (a != b)) σ):OW c n VR [.int a,.int b] (cmp .NotEq) Q σ :=
 ow2 fun A s v w _ G hv hw=>by obtain ⟨t,rfl⟩:=zz hv;obtain ⟨u,rfl⟩:=zz hw;exact ne_int (PG.same0 G zC h)
theorem oLt {a b:Int} (h:Q (.bool (decide (a<b))) σ):OW c n VR [.int a,.int b] (cmp .Lt) Q σ :=
 ow2 fun A s v w _ G hv hw=>by obtain ⟨t,rfl⟩:=zz hv;obtain ⟨u,rfl⟩:=zz hw;exact lt_int (PG.same0 G zC h)
theorem oLe {a b:Int} (h:Q (.bool (decide (a<=b))) σ):OW c n VR [.int a,.int b] (cmp .LtE) Q σ :=
 ow2 fun A s v w _ G hv hw=>by obtain ⟨t,rfl⟩:=zz hv;obtain ⟨u,rfl⟩:=zz hw;exact le_int (PG.same0 G zC h)
theorem oGt {a b:Int} (h:Q (.bool (decide (b<a))) σ):OW c n VR [.int a,.int b] (cmp .Gt) Q σ :=
 ow2 fun A s v w _ G hv hw=>by obtain ⟨t,rfl⟩:=zz hv;obtain ⟨u,rfl⟩:=zz hw;exact gt_int (PG.same0 G zC h)
theorem oGe {a b:Int} (h:Q (.bool (decide (b<=a))) σ):OW c n VR [.int a,.int b] (cmp .GtE) Q σ :=
 ow2 fun A s v w _ G hv hw=>by obtain ⟨t,rfl⟩:=zz hv;obtain ⟨u,rfl⟩:=zz hw;exact ge_int (PG.same0 G zC h)
theorem gG {a b:Str} (h:Q (.bool (a==b)) σ):OW c n VR [.str a,.str b] (cmp .Eq) Q σ :=
 ow2 fun A s v w _ G hv hw=>by obtain ⟨t,rfl⟩:=yN hv;obtain ⟨u,rfl⟩:=yN hw;exact PyProof.Rows.eq_str (PG.same0 G zC h)
noncomputable def vW:CV->Bool | .none=>true | _=>false
theorem mG {a:CV} (h:Q (.bool (vW a)) σ):OW c n VR [a,.none] (cmp .Is) Q σ :=
 ow2 fun A s v w _ G hv hw=>by
  obtain rfl:=xQ hw
  refine is_none_gen (PG.same0 G (g:=CV.bool (vW a)) ?_ h)
  have:(v==Value.none)=vW a:=by
   cases a with
   | none=>obtain rfl:=xQ hv;rfl
   | bool b=>obtain rfl:=yO hv;rfl
   | int i=>obtain ⟨t,rfl⟩:=zz hv;rfl
   | str x=>obtain ⟨t,rfl⟩:=yN hv;rfl
   | tup xs=>refine y6 (xW hv) ?_;intro a items q83 _;obtain rfl:=q83;rfl
   | ref a=>obtain rfl:=zO hv;rfl
  rw [this];exact zC
noncomputable def jD (x:Str):Value->Bool | .str y _=>y==x | _=>false
theorem vh {h:Heap} {x:Str}:∀ {xs:List Str} {vs:List Value},VRs h (xs.map .str) vs->vs.any (jD x)=xs.contains x
 | [],vs,V=>by obtain rfl:=VRs.nil_iff.mp V;rfl
 | y::ys,vs,V=>by
  refine zg (VRs.inv V) ?_;intro v r q84 h1 V';obtain rfl:=q84
  obtain ⟨t,rfl⟩:=yN h1
  rw [List.any_cons,vh V',List.contains_cons]
  show (y==x || ys.contains x)=_
  rw [show (y==x)=(x==y) from by rw [Bool.eq_iff_iff,beq_iff_eq,beq_iff_eq];exact eq_comm]
theorem vj {h:Heap} {A:Around} {s:Shared} {x:Str} {u:Tok}:∀ {xs:List Str} {vs:List Value},VRs h (xs.map .str) vs->∀ y∈vs,SeqAt.EqAt A s y (.str x u) (jD x y)
 | [],vs,V=>by obtain rfl:=VRs.nil_iff.mp V;exact fun _ hy=>nomatch hy
 | z::ys,vs,V=>by
  refine zg (VRs.inv V) ?_;intro v r q86 h1 V';obtain rfl:=q86
  obtain ⟨t,rfl⟩:=yN h1
  intro y hy
  rcases List.mem_cons.mp hy with rfl | hy
  ·exact SeqAt.EqAt.str_str z t x u
  ·exact vj V' y hy
theorem zI {h:Heap} {a:Addr} {items:Array Value} (x:pt h a items):h.IsTuple a items:=yl (x) fun n e=>(zt _ e rfl ⟨n,rfl⟩)
theorem vm {x:Str} {xs:List Str} (h:Q (.bool (xs.contains x)) σ):OW c n VR [.str x,.tup (xs.map .str)] (cmp .In) Q σ :=
 ow2 fun A s v w _ G hv hw=>by
  obtain ⟨t,rfl⟩:=yN hv
  refine zg (xW hw) ?_;intro a items q89 T V;obtain rfl:=q89
  refine SeqAt.in_tupleAt (jD x) (zI T) (fun y hy=>vj V y (Array.mem_toList_iff.mpr hy)) (PG.same0 G (g:=CV.bool (xs.contains x)) ?_ h)
  rw [← Array.any_toList,vh V];exact zC
theorem qg {x:Str} {xs:List Str} (h:Q (.bool (!xs.contains x)) σ):OW c n VR [.str x,.tup (xs.map .str)] (cmp .NotIn) Q σ :=
 ow2 fun A s v w _ G hv hw=>by
  obtain ⟨t,rfl⟩:=yN hv
  refine zg (xW hw) ?_;intro a items q91 T V;obtain rfl:=q91
  refine SeqAt.notIn_tupleAt (jD x) (zI T) (fun y hy=>vj V y (Array.mem_toList_iff.mpr hy)) (PG.same0 G (g:=CV.bool (!xs.contains x)) ?_ h)
  rw [← Array.any_toList,vh V];exact zC
noncomputable def lT (x:Int):Value->Bool | .int y _=>y==x | _=>false
theorem vn {h:Heap} {x:Int}:∀ {xs:List Int} {vs:List Value},VRs h (xs.map .int) vs->vs.any (lT x)=xs.contains x
 | [],vs,V=>by obtain rfl:=VRs.nil_iff.mp V;rfl
 | y::ys,vs,V=>by
  refine zg (VRs.inv V) ?_;intro v r q92 h1 V';obtain rfl:=q92
  obtain ⟨t,rfl⟩:=zz h1
  rw [List.any_cons,vn V',List.contains_cons]
  show (y==x || ys.contains x)=_
  rw [show (y==x)=(x==y) from by rw [Bool.eq_iff_iff,beq_iff_eq,beq_iff_eq];exact eq_comm]
theorem xZ {h:Heap} {A:Around} {s:Shared} {x:Int} {u:Tok}:∀ {xs:List Int} {vs:List Value},VRs h (xs.map .int) vs->∀ y∈vs,SeqAt.EqAt A s y (.int x u) (lT x y)
 | [],vs,V=>by obtain rfl:=VRs.nil_iff.mp V;exact fun _ hy=>nomatch hy
 | z::ys,vs,V=>by
  refine zg (VRs.inv V) ?_;intro v r q94 h1 V';obtain rfl:=q94
  obtain ⟨t,rfl⟩:=zz h1
  intro y hy
  rcases List.mem_cons.mp hy with rfl | hy
  ·exact SeqAt.EqAt.int_int z t x u
  ·exact xZ V' y hy
theorem SG.list {s:Shared} (G:SG c σ s) {a:Addr} {xs:List CV} (ha:σ a=some (.list xs)):∃ items,s.heap.PlainList a items/\VRs s.heap xs items.toList/\xs.length<=100000:=G.rep a _ ha
theorem iY {x:Int} {a:Addr} {xs:List Int} (ha:σ a=some (.list (xs.map .int))) (h:Q (.bool (xs.contains x)) σ):OW c n VR [.int x,.ref a] (cmp .In) Q σ :=
 ow2 fun A s v w _ G hv hw=>by
  obtain ⟨t,rfl⟩:=zz hv
  obtain rfl:=zO hw
  refine zm (G.list ha) ?_;intro items P V _
  refine SeqAt.in_listAt (lT x) P.isList (fun y hy=>xZ V y (Array.mem_toList_iff.mpr hy)) (PG.same0 G (g:=CV.bool (xs.contains x)) ?_ h)
  rw [← Array.any_toList,vn V];exact zC
theorem mH {x:Int} {a:Addr} {xs:List Int} (ha:σ a=some (.list (xs.map .int))) (h:Q (.bool (!xs.contains x)) σ):OW c n VR [.int x,.ref a] (cmp .NotIn) Q σ :=
 ow2 fun A s v w _ G hv hw=>by
  obtain ⟨t,rfl⟩:=zz hv
  obtain rfl:=zO hw
  refine zm (G.list ha) ?_;intro items P V _
  refine SeqAt.notIn_listAt (lT x) P.isList (fun y hy=>xZ V y (Array.mem_toList_iff.mpr hy)) (PG.same0 G (g:=CV.bool (!xs.contains x)) ?_ h)
  rw [← Array.any_toList,vn V];exact zC
mutual
noncomputable def i4:CV->Option PyData
 | .none=>some .none
 | .bool b=>some (.bool b)
 | .int i=>some (.int i)
 | .str x=>some (.str x)
 | .tup xs=>(wN xs).map .tuple
 | .ref _=>none
noncomputable def wN:List CV->Option (List PyData)
 | []=>some []
 | x::xs=>(i4 x).bind fun d=>(wN xs).map (d::·)
end
noncomputable def wl (σ:Sto):CV->Option PyData
 | .ref a=>(σ a).bind fun o=>match o with | .list xs=>(wN xs).map .list | _=>none
 | v=>i4 v
mutual
theorem tR {h:Heap}:∀ {cv:CV} {v:Value} {d:PyData},VR h cv v->i4 cv=some d->∃ as,Reads h v d as
 | .none,v,d,r,e=>by cases Option.some.inj e;obtain rfl:=xQ r;exact ⟨_,.none⟩
 | .bool b,v,d,r,e=>by cases Option.some.inj e;obtain rfl:=yO r;exact ⟨_,.bool b⟩
 | .int i,v,d,r,e=>by cases Option.some.inj e;obtain ⟨t,rfl⟩:=zz r;exact ⟨_,.int i t⟩
 | .str x,v,d,r,e=>by cases Option.some.inj e;obtain ⟨t,rfl⟩:=yN r;exact ⟨_,.str x t⟩
 | .tup xs,v,d,r,e=>by
  refine za (Option.map_eq_some_iff.mp e) ?_;intro ds hds q100;obtain rfl:=q100
  refine zg (xW r) ?_;intro a items q101 q102 V;obtain rfl:=q101;obtain ⟨k,ho⟩:=q102
  obtain ⟨as,ra⟩:=xb V hds
  exact ⟨_,.tuple ho rfl rfl ra⟩
theorem xb {h:Heap}:∀ {cs:List CV} {vs:List Value} {ds:List PyData},VRs h cs vs->wN cs=some ds->∃ as,ReadsAll h vs ds as
 | [],vs,ds,V,e=>by cases Option.some.inj e;obtain rfl:=VRs.nil_iff.mp V;exact ⟨_,.nil⟩
 | c::cs,vs,ds,V,e=>by
  refine zg (V.inv) ?_;rintro v r rfl h1 V
  refine za (Option.bind_eq_some_iff.mp e) ?_;intro d e1 e
  refine za (Option.map_eq_some_iff.mp e) ?_;intro ds' e2 e
  cases e
  refine yl (tR h1 e1) ?_;intro as ra
  refine yl (xb V e2) ?_;intro bs rb
  exact ⟨_,.cons ra rb⟩
end
theorem xk {s:Shared} (G:SG c σ s) {cv:CV} {v:Value} {d:PyData} (r:VR s.heap cv v) (e:wl σ cv=some d):∃ as,Reads s.heap v d as:=by
 cases cv with
 | ref a =>
  obtain rfl:=zO r
  refine za (Option.bind_eq_some_iff.mp e) ?_;intro o ha e
  cases o
  case list xs =>
   refine za (Option.map_eq_some_iff.mp e) ?_;intro ds hds q104;obtain rfl:=q104
   refine zm (G.list ha) ?_;intro items q105 V _;obtain ⟨k,ho⟩:=q105
   obtain ⟨as,ra⟩:=xb V hds
   exact ⟨_,.list ho rfl rfl ra⟩
  all_goals cases e
 | _=>exact tR r e
theorem oEq {a b:CV} {da db:PyData} (ha:wl σ a=some da) (hb:wl σ b=some db) (sa:SeqAt.shaped da=true) (sb:SeqAt.shaped db=true) (h:Q (.bool (da.eqv db)) σ):OW c n VR [a,b] (cmp .Eq) Q σ :=
 ow2 fun A s v w hR G hv hw=>by
  obtain ⟨as,ra⟩:=xk G hv ha
  obtain ⟨bs,rb⟩:=xk G hw hb
  exact eq_dataH ra rb sa sb (by have:=hR.units;unfold cLine;exact o10 _ _ this) (PG.same0 G zC h)
theorem oNe {a b:CV} {da db:PyData} (ha:wl σ a=some da) (hb:wl σ b=some db) (sa:SeqAt.shaped da=true) (sb:SeqAt.shaped db=true) (h:Q (.bool (!da.eqv db)) σ):OW c n VR [a,b] (cmp .NotEq) Q σ :=
 ow2 fun A s v w hR G hv hw=>by
  obtain ⟨as,ra⟩:=xk G hv ha
  obtain ⟨bs,rb⟩:=xk G hw hb
  exact ne_dataH ra rb sa sb (by have:=hR.units;unfold cLine;exact o10 _ _ this) (PG.same0 G zC h)
end

section
variable {c:Cx} {n:Nat} {env:Env} {own:List Addr} {ρ:Loc} {σ:Sto} {Q:CV->Sto->Prop}
theorem PG.newList {Q:CV->Sto->Prop} {s:Shared} {h':Heap} {a:Addr} {xs:List CV} {items:Array Value} {t:Nat} (G:SG c σ s) (ha:s.heap.objs.size<=a) (K:∀ b o,s.heap.get? b=some o->h'.get? b=some o)
  (hp:h'.PlainList a items) (hv:VRs s.heap xs items.toList) (hl:xs.length<=100000) (h:∀ a,σ a=none->Q (.ref a) (upd σ a (.list xs))):PG c VR Q σ s (.ref a) { s with heap:=h',toks:=t }:=by
 refine zh (G.new (co:=.list xs) (t:=t) ha K fun T=>(zt items hp (hv.mono T) hl)) ?_;intro G' K' T'
 exact ⟨.ref a,_,wk,G',K',h a (G.top ha)⟩
theorem xC {h:Heap} {items:Array Value}:(h.push { cls:=.type "list",data:=.seq items }).PlainList h.objs.size items:=⟨0,Heap.get?_push_size _ rfl⟩
theorem xR {a:Addr} {xs:List CV} (ha:σ a=some (.list xs)) (h:Q (.int xs.length) σ):OW c n VR [.ref a] (zQ (.builtin "len")) Q σ :=
 ow1 fun A s v _ G hv=>by
  obtain rfl:=zO hv
  refine zm (G.list ha) ?_;intro items P V hl
  have e:items.size=xs.length:=by have:=V.length;rw [← this];simp
  exact call_len_list P.isList (by rw [e];exact o11 _ hl) (by rw [e];exact PG.same G isInt h)
noncomputable def lU (value slice:Expr):List Value->Sem Value | [o,i]=>subscriptTail value slice o i | _=>unsupported ""
theorem gH {value slice:Expr} {pos:Pos} (h:WE c n env own value (fun o σ₁=>WE c n env own slice (fun i σ₂=>OW c n VR [o,i] (lU value slice) Q σ₂) ρ σ₁) ρ σ):WE c n env own (.Subscript value slice pos) Q ρ σ :=
 .mk fun _ _ hR G F=>Subscript_ (two h hR G F)
theorem zD {value slice:Expr} {a:Addr} {xs:List CV} {k:Int} {cv:CV} (hs:∀ o i,subscripted slice false o i=operate [o,i] (getItem o i)) (ha:σ a=some (.list xs)) (h0:0<=k) (hx:xs[k.toNat]?=some cv) (h:Q cv σ):OW c n VR [.ref a,.int k] (lU value slice) Q σ :=
 ow2 fun A s v w _ G hv hw=>by
  obtain rfl:=zO hv
  obtain ⟨t,rfl⟩:=zz hw
  refine zm (G.list ha) ?_;intro items P V hl
  refine za (V.get hx) ?_;intro x hx' r
  have hk:k<2 ^ 63:=by
   have:=(List.getElem?_eq_some_iff.mp hx).1
   exact o12 _ _ this hl
  exact tail_any P.isList.typeIs slot_list_getitem.lookup (wpAny_getItem_list P.isList h0 hk (by simpa using hx') (PG.same0 G r h)) (hs _ _)
theorem vp {value slice:Expr} {a:Addr} {xs:List CV} {k:Int} {cv:CV} (hs:∀ o i,subscripted slice false o i=operate [o,i] (getItem o i)) (ha:σ a=some (.list xs)) (h0:k<0) (h1:-(xs.length:Int)<=k) (hx:xs[(k+xs.length).toNat]?=some cv) (h:Q cv σ):OW c n VR [.ref a,.int k] (lU value slice) Q σ :=
 ow2 fun A s v w _ G hv hw=>by
  obtain rfl:=zO hv
  obtain ⟨t,rfl⟩:=zz hw
  refine zm (G.list ha) ?_;intro items P V hl
  refine za (V.get hx) ?_;intro x hx' r
  have e:items.size=xs.length:=by have:=V.length;rw [← this];simp
  exact tail_any P.isList.typeIs slot_list_getitem.lookup (wpAny_getItem_list_neg P.isList h0 (by rw [e];exact h1) (o13 _ _ h1 hl) (by rw [e];simpa using hx') (PG.same0 G r h)) (hs _ _)
noncomputable abbrev WP (c:Cx) (n:Nat) (env:Env) (own:List Addr) (p:Option Expr) (Q:Option Int->Sto->Prop) (ρ:Loc) (σ:Sto):Prop :=
 W c n env own (fun _ i v=>IsPart v i) (evalPart p env) (fun v ρ' σ'=>ρ'=ρ/\Q v σ') ρ σ
theorem ko {Q:Option Int->Sto->Prop} (h:Q none σ):WP c n env own none Q ρ σ :=
 .mk fun _ _ _ G F=>by rw [evalPart_none];exact wpAny_pure (PE.ofE0 G F (g:=(none:Option Int)) .none ⟨rfl,h⟩)
theorem kq {e:Expr} {Q:Option Int->Sto->Prop} (h:WE c n env own e (fun v σ₁=>∃ i,v=.int i/\Q (some i) σ₁) ρ σ):WP c n env own (some e) Q ρ σ :=
 .mk fun A s hR G F=>by
  rw [evalPart_some]
  exact h.on0 hR G F (fun v s₁ g σ' r G' F' K q0=>by refine za q0 ?_;intro i e2 q;subst e2;obtain ⟨t,rfl⟩:=zz r;exact ⟨some i,ρ,σ',.int i t,G',F',K,rfl,q⟩)
noncomputable def csl {α:Type} (xs:List α) (lo hi:Option Int):List α :=
 (xs.drop (lo.elim 0 (clipAt xs.length))).take (hi.elim xs.length (clipAt xs.length)-lo.elim 0 (clipAt xs.length))
theorem vq {value:Expr} {lower upper step:Option Expr} {p:Pos} {a:Addr} {items:Array Value} {vl vu vs:Value} {lo hi st:Option Int} {A:Around} {s:Shared} {P:Value->Shared->Prop} {E:Value->Shared->Prop} {ops:List Value}
  (hl:s.heap.IsList a items) (pl:IsPart vl lo) (pu:IsPart vu hi) (ps:IsPart vs st) (h0:st≠some 0) (hsz:items.size<=sizeLine)
  (hs:∀ o i,subscripted (.Slice lower upper step p) false o i=operate (match step with | none=>[i,o] | some _=>[o,i]) (getItem o i))
  (h:P (.ref (s.heap.objs.size+1)) { s with heap:=(s.heap.push { cls:=.type "slice",data:=.fields #[vl,vu,vs] }).push { cls:=.type "list",data:=.seq (slicePick items lo hi st) } }) :
  wpAny (model c.prog c.w) A (subscriptTail value (.Slice lower upper step p) (.ref a) (.ref s.heap.objs.size)) P E { s with heap:=s.heap.push { cls:=.type "slice",data:=.fields #[vl,vu,vs] } }:=by
 refine tail_any (T:="list") (hl.push _).typeIs slot_list_getitem.lookup (wpAny_getItem_list_slice (hl.push _) (Heap.IsSliceOf.new ..) pl pu ps h0 ?_ hsz) (hs _ _)
 simpa using h
theorem kr {value:Expr} {lower upper:Option Expr} {p pos:Pos}
  (h:WE c n env own value (fun o σ₁=>WP c n env own lower (fun lo σ₂=>WP c n env own upper (fun hi σ₃=>∃ a xs,o=.ref a/\σ₃ a=some (.list xs)/\∀ d,σ₃ d=none->Q (.ref d) (upd σ₃ d (.list (csl xs lo hi)))) ρ σ₂) ρ σ₁) ρ σ) :
  WE c n env own (.Subscript value (.Slice lower upper none p) pos) Q ρ σ :=
 .mk fun A s hR G F=>by
  refine Subscript_ (h.on0 hR G F (fun o s₁ co σ₁ ro G1 F₁ K1 h₁=>?_))
  refine wpAny_Slice (h₁.on0 hR G1 F₁ (fun vl s₂ lo σ₂ rl G2 F₂ K2 h₂=>?_))
  refine h₂.on0 hR G2 F₂ (fun vu s₃ hi σ₃ ru G3 F3 K3 h₃=>?_)
  rw [evalPart_none]
  refine wpAny_pure ?_
  refine zg (h₃) ?_;intro a xs e ha hq
  subst e
  obtain rfl:=zO ro
  refine zm (G3.list ha) ?_;intro items P V hl
  have esz:items.size=xs.length:=by have:=V.length;rw [← this];simp
  refine vq (ops:=[]) P.isList rl ru .none (by simp) (by rw [esz,sizeLine_eq];exact o14 _ hl) (fun _ _=>rfl) ?_
  have hpick:(slicePick items lo hi none).toList=csl items.toList lo hi:=by rw [slicePick_plain];simp [csl]
  have hv:VRs s₃.heap (csl xs lo hi) (slicePick items lo hi none).toList:=by
   rw [hpick]
   unfold csl
   have e2:items.toList.length=xs.length:=V.length
   rw [e2]
   exact (V.drop _).take _
  have hlen:(csl xs lo hi).length<=100000:=by
   unfold csl
   have:=List.length_take_le (hi.elim xs.length (clipAt xs.length)-lo.elim 0 (clipAt xs.length)) (xs.drop (lo.elim 0 (clipAt xs.length)))
   have h2:(xs.drop (lo.elim 0 (clipAt xs.length))).length<=xs.length:=by rw [List.length_drop];exact o15 _ _
   have h3:=List.length_take_le' (hi.elim xs.length (clipAt xs.length)-lo.elim 0 (clipAt xs.length)) (xs.drop (lo.elim 0 (clipAt xs.length)))
   exact o16 _ _ _ h3 h2 hl
  have hplain:((s₃.heap.push { cls:=.type "slice",data:=.fields #[vl,vu,.none] }).push { cls:=.type "list",data:=.seq (slicePick items lo hi none) }).PlainList (s₃.heap.objs.size+1) (slicePick items lo hi none):=⟨0,by
   have:=Heap.get?_push_size (s₃.heap.push { cls:=.type "slice",data:=.fields #[vl,vu,.none] }) (o:={ cls:=.type "list",data:=.seq (slicePick items lo hi none) }) rfl
   rwa [Heap.size_push] at this⟩
  obtain ⟨d,σ₄,r₄,G4,K4,q₄⟩:=PG.newList (t:=s₃.toks) (Q:=Q) G3 (Nat.le_succ _) (fun b o e=>zl _ _ b o (zl _ _ b o e)) hplain hv hlen hq
  exact ⟨d,ρ,σ₄,r₄,G4,F3.step (G3.stay K4) K4,((K1.trans K2).trans K3).trans (K4.own (by simp)),rfl,q₄⟩
theorem gI {value st:Expr} {p pos:Pos}
  (h:WE c n env own value (fun o σ₁=>WE c n env own st (fun k σ₂=>k=.int (-1)/\∃ a xs,o=.ref a/\σ₂ a=some (.list xs)/\∀ d,σ₂ d=none->Q (.ref d) (upd σ₂ d (.list xs.reverse))) ρ σ₁) ρ σ) :
  WE c n env own (.Subscript value (.Slice none none (some st) p) pos) Q ρ σ :=
 .mk fun A s hR G F=>by
  refine Subscript_ (h.on0 hR G F (fun o s₁ co σ₁ ro G1 F₁ K1 h₁=>?_))
  refine wpAny_Slice ?_
  rw [evalPart_none,evalPart_some]
  refine wpAny_pure (wpAny_pure ?_)
  refine h₁.on0 hR G1 F₁ (fun vk s₃ ck σ₃ rk G3 F3 K3 q0=>?_)
  refine zY q0 ?_;intro ek h₃
  subst ek
  obtain ⟨t,rfl⟩:=zz rk
  refine zg (h₃) ?_;intro a xs e ha hq
  subst e
  obtain rfl:=zO ro
  refine zm (G3.list ha) ?_;intro items P V hl
  have esz:items.size=xs.length:=by have:=V.length;rw [← this];simp
  refine vq (ops:=[]) P.isList .none .none (.int (-1) t) (by simp) (by rw [esz,sizeLine_eq];exact o14 _ hl) (fun _ _=>rfl) ?_
  have hplain:((s₃.heap.push { cls:=.type "slice",data:=.fields #[.none,.none,.int (-1) t] }).push { cls:=.type "list",data:=.seq (slicePick items none none (some (-1))) }).PlainList (s₃.heap.objs.size+1) (slicePick items none none (some (-1))):=⟨0,by
   have:=Heap.get?_push_size (s₃.heap.push { cls:=.type "slice",data:=.fields #[.none,.none,.int (-1) t] }) (o:={ cls:=.type "list",data:=.seq (slicePick items none none (some (-1))) }) rfl
   rwa [Heap.size_push] at this⟩
  have hv:VRs s₃.heap xs.reverse (slicePick items none none (some (-1))).toList:=by rw [krv_pick];exact V.reverse
  obtain ⟨d,σ₄,r₄,G4,K4,q₄⟩:=PG.newList (t:=s₃.toks) (Q:=Q) G3 (Nat.le_succ _) (fun b o e=>zl _ _ b o (zl _ _ b o e)) hplain hv (by rw [List.length_reverse];exact hl) hq
  exact ⟨d,ρ,σ₄,r₄,G4,F3.step (G3.stay K4) K4,(K1.trans K3).trans (K4.own (by simp)),rfl,q₄⟩
theorem uQ {a b:Addr} {xs ys:List CV} (ha:σ a=some (.list xs)) (hb:σ b=some (.list ys)) (hl:xs.length+ys.length<=100000) (h:∀ d,σ d=none->Q (.ref d) (upd σ d (.list (xs++ys)))):OW c n VR [.ref a,.ref b] (bin .Add) Q σ :=
 ow2 fun A s v w _ G hv hw=>by
  obtain rfl:=zO hv
  obtain rfl:=zO hw
  refine zm (G.list ha) ?_;intro items q110 V h1;obtain ⟨k,P⟩:=q110
  refine zm (G.list hb) ?_;intro items' q111 V' h2;obtain ⟨k',P'⟩:=q111
  have e1:items.size=xs.length:=by have:=V.length;rw [← this];simp
  have e2:items'.size=ys.length:=by have:=V'.length;rw [← this];simp
  refine PySem.P.add_list P P' (PG.newList (t:=s.toks) G (Nat.le_refl _) (zl _ _) xC ?_ (by rw [List.length_append];exact hl) h) (by rw [e1,e2,sizeLine_eq];exact o17 _ _ hl)
  rw [Array.toList_append];exact V.append V'
theorem uR {xs ys:List CV} (hx:xs≠[]) (hy:ys≠[]) (hl:xs.length+ys.length<=1000) (h:Q (.tup (xs++ys)) σ):OW c n VR [.tup xs,.tup ys] (bin .Add) Q σ :=
 ow2 fun A s v w _ G hv hw=>by
  refine zg (xW hv) ?_;intro a items q112 q113 V;obtain rfl:=q112;obtain ⟨k,P⟩:=q113
  refine zg (xW hw) ?_;intro b items' q114 q115 V';obtain rfl:=q114;obtain ⟨k',P'⟩:=q115
  have e1:items.size=xs.length:=by have:=V.length;rw [← this];simp
  have e2:items'.size=ys.length:=by have:=V'.length;rw [← this];simp
  have n1:¬ items.isEmpty=true:=by
   rw [Array.isEmpty_iff_size_eq_zero,e1];intro z;exact hx (List.length_eq_zero_iff.mp z)
  have n2:¬ items'.isEmpty=true:=by
   rw [Array.isEmpty_iff_size_eq_zero,e2];intro z;exact hy (List.length_eq_zero_iff.mp z)
  refine zh (G.grow (h':=s.heap.push { cls:=.type "tuple",data:=.seq (items++items') }) (t:=s.toks) (zl _ _)) ?_;intro G' K' T'
  refine PySem.P.add_tuple P P' n1 n2 ⟨.tup (xs++ys),σ,?_,G',K',h⟩ (by rw [e1,e2,sizeLine_eq];exact o18 _ _ hl)
  refine (zj _ (items++items') rfl (⟨0,Heap.get?_push_size _ rfl⟩) (?_))
  rw [Array.toList_append];exact (V.append V').mono T'
end

noncomputable def stor {K:Type} [DecidableEq K] (es:List (K × CV)) (k:K) (v:CV):List (K × CV) :=
 if es.any (fun e=>e.1=k) then es.map (fun e=>if e.1=k then (e.1,v) else e) else es++[(k,v)]
section
variable {K:Type} [DecidableEq K]
theorem PairRel.length {h:Heap}:∀ {es:List (K × CV)} {kvs:List (K × Value)},PairRel h es kvs->kvs.length=es.length
 | [],kvs,x=>by obtain rfl:=x;rfl
 | e::es,kvs,x=>by
  refine zM (x) ?_;intro kv r q116 _ _ b;obtain rfl:=q116
  simp [b.length]
theorem PairRel.any {h:Heap} (k:K):∀ {es:List (K × CV)} {kvs:List (K × Value)},PairRel h es kvs->(kvs.any fun kv=>kv.1=k)=es.any fun e=>e.1=k
 | [],kvs,x=>by obtain rfl:=x;rfl
 | e::es,kvs,x=>by
  refine zM (x) ?_;intro kv r q117 a _ b;obtain rfl:=q117
  rw [List.any_cons,List.any_cons,PairRel.any k b,a]
theorem PairRel.map {h:Heap} (k:K) {cv:CV} {v:Value} (r:VR h cv v):∀ {es:List (K × CV)} {kvs:List (K × Value)},PairRel h es kvs->PairRel h (es.map fun e=>if e.1=k then (e.1,cv) else e) (kvs.map fun kv=>if kv.1=k then (kv.1,v) else kv)
 | [],kvs,x=>by obtain rfl:=x;rfl
 | e::es,kvs,x=>by
  refine zM (x) ?_;intro kv q q118 a d b;obtain rfl:=q118
  refine (zH _ _ rfl (?_) (?_) (PairRel.map k r b))
  ·dsimp only;rw [a];split <;> simp [a]
  ·dsimp only;rw [a];split
   ·exact r
   ·exact d
theorem PairRel.snoc {h:Heap} (k:K) {cv:CV} {v:Value} (r:VR h cv v):∀ {es:List (K × CV)} {kvs:List (K × Value)},PairRel h es kvs->PairRel h (es++[(k,cv)]) (kvs++[(k,v)])
 | [],kvs,x=>by obtain rfl:=x;exact (zH _ _ rfl rfl r rfl)
 | e::es,kvs,x=>by
  refine zM (x) ?_;intro kv q q119 a d b;obtain rfl:=q119
  exact (zH _ _ rfl a d (b.snoc k r))
theorem PairRel.stored {h:Heap} {k:K} {cv:CV} {v:Value} {es:List (K × CV)} {kvs:List (K × Value)} (x:PairRel h es kvs) (r:VR h cv v):PairRel h (stor es k cv) (PySem.stored kvs k v):=by
 unfold PySem.stored stor
 rw [x.any k]
 split
 ·exact x.map k r
 ·exact x.snoc k r
theorem PairRel.look [BEq K] [LawfulBEq K] {h:Heap} (k:K):∀ {es:List (K × CV)} {kvs:List (K × Value)},PairRel h es kvs->match es.lookup k with | some cv=>∃ v,valueAt kvs k=some v/\VR h cv v | none=>valueAt kvs k=none
 | [],kvs,x=>by obtain rfl:=x;simp [valueAt]
 | e::es,kvs,x=>by
  refine zM (x) ?_;intro kv q q120 a d b;obtain rfl:=q120
  have ih:=PairRel.look k b
  obtain ⟨ek,ev⟩:=e
  rw [List.lookup_cons]
  by_cases hk:k=ek
  ·subst hk
   simp only [beq_self_eq_true]
   exact (z0 kv.2 (by simp [valueAt,a]) d)
  ·rw [beq_eq_false_iff_ne.mpr hk]
   have:¬ kv.1=k:=fun z=>hk (z.symm.trans a)
   simp only [valueAt,List.find?_cons,this,decide_false] at ih ⊢
   exact ih
theorem yz {es:List (K × CV)} {k:K} {v:CV}:(stor es k v).length<=es.length+1:=by unfold stor;split <;> simp
end
section
variable {c:Cx} {n:Nat} {env:Env} {own:List Addr} {ρ:Loc} {σ:Sto} {Q:CV->Sto->Prop}
theorem SG.sdict {s:Shared} (G:SG c σ s) {d:Addr} {es:List (Str × CV)} {ep:Nat} (h:σ d=some (.sdict es ep)):∃ kvs,s.heap.DictAt (PySem.strKind c.prog c.w) d kvs ep/\PairRel s.heap es kvs/\es.length<=100000:=G.rep d _ h
theorem SG.idict {s:Shared} (G:SG c σ s) {d:Addr} {es:List (Int × CV)} {ep:Nat} (h:σ d=some (.idict es ep)):∃ kvs,s.heap.DictAt (PySem.intKind c.prog c.w) d kvs ep/\PairRel s.heap es kvs/\es.length<=100000:=G.rep d _ h
theorem wP {value slice:Expr} {d:Addr} {es:List (Str × CV)} {ep:Nat} {k:Str} {cv:CV} (hs:∀ o i,subscripted slice false o i=operate [o,i] (getItem o i)) (hd:σ d=some (.sdict es ep)) (hl:es.lookup k=some cv) (h:Q cv σ):OW c n VR [.ref d,.str k] (lU value slice) Q σ :=
 ow2 fun A s v w _ G hv hw=>by
  obtain rfl:=zO hv
  obtain ⟨t,rfl⟩:=yN hw
  refine zm (G.sdict hd) ?_;intro kvs D R _
  have:=R.look k
  rw [hl] at this
  refine za (this) ?_;intro x hx r
  exact tail_any D.dictOf.typeIs slot_dict_getitem.lookup (wpAny_getItem_of (strKind_is c.prog c.w k t) D.dictOf.mapOf hx (PG.same G r h)) (hs _ _)
theorem mI {value slice:Expr} {d:Addr} {es:List (Int × CV)} {ep:Nat} {k:Int} {cv:CV} (hs:∀ o i,subscripted slice false o i=operate [o,i] (getItem o i)) (hd:σ d=some (.idict es ep)) (hl:es.lookup k=some cv) (h:Q cv σ):OW c n VR [.ref d,.int k] (lU value slice) Q σ :=
 ow2 fun A s v w _ G hv hw=>by
  obtain rfl:=zO hv
  obtain ⟨t,rfl⟩:=zz hw
  refine zm (G.idict hd) ?_;intro kvs D R _
  have:=R.look k
  rw [hl] at this
  refine za (this) ?_;intro x hx r
  exact tail_any D.dictOf.typeIs slot_dict_getitem.lookup (wpAny_getItem_of (intKind_is c.prog c.w k t) D.dictOf.mapOf hx (PG.same G r h)) (hs _ _)
theorem u9 {h:Heap} {es:List (Str × CV)} {kvs:List (Str × Value)} (R:PairRel h es kvs) (k:Str):(valueAt kvs k).isSome=(es.lookup k).isSome:=by
 have:=R.look k
 split at this
 ·rename_i cv e;refine za (this) ?_;intro v hv _;rw [hv,e];rfl
 ·rename_i e;rw [this,e];rfl
theorem gJ {d:Addr} {es:List (Str × CV)} {ep:Nat} {k:Str} (hd:σ d=some (.sdict es ep)) (h:Q (.bool (es.lookup k).isSome) σ):OW c n VR [.str k,.ref d] (cmp .In) Q σ :=
 ow2 fun A s v w _ G hv hw=>by
  obtain rfl:=zO hw
  obtain ⟨t,rfl⟩:=yN hv
  refine zm (G.sdict hd) ?_;intro kvs D R _
  exact wpAny_in_of (strKind_is c.prog c.w k t) (G.low _ _ hd) D.dictOf.mapOf (PG.same G (by rw [u9 R];exact zC) h)
theorem mJ {d:Addr} {es:List (Str × CV)} {ep:Nat} {k:Str} (hd:σ d=some (.sdict es ep)) (h:Q (.bool (!(es.lookup k).isSome)) σ):OW c n VR [.str k,.ref d] (cmp .NotIn) Q σ :=
 ow2 fun A s v w _ G hv hw=>by
  obtain rfl:=zO hw
  obtain ⟨t,rfl⟩:=yN hv
  refine zm (G.sdict hd) ?_;intro kvs D R _
  exact wpAny_notIn_of (strKind_is c.prog c.w k t) (G.low _ _ hd) D.dictOf.mapOf (PG.same G (by rw [u9 R];exact zC) h)
theorem kt {d:Addr} {es:List (Str × CV)} {ep:Nat} {k:Str} (hd:σ d=some (.sdict es ep)) (h:Q ((es.lookup k).getD .none) σ):OW c n VR [.ref d,.str k] (zQ (.builtin "dict.get")) Q σ :=
 ow2 fun A s v w _ G hv hw=>by
  obtain rfl:=zO hv
  obtain ⟨t,rfl⟩:=yN hw
  refine zm (G.sdict hd) ?_;intro kvs D R _
  refine call_meetsIn PySem.F.slot_dict_get D.dictOf.typeIs PySem.F.entry_dict_get (PySem.F.args_dict_get_2 _ _) (meets_dict_get (PySem.strKind c.prog c.w) d (strKind_is c.prog c.w k t) (G.low _ _ hd)) (z0 _ D.dictOf.mapOf (PG.same G (g:=(es.lookup k).getD .none) ?_ h))
  have:=R.look k
  split at this
  ·rename_i cv e;refine za (this) ?_;intro v hv r;rw [hv,e];exact r
  ·rename_i e;rw [this,e];exact qe
theorem nN {d:Addr} {es:List (Int × CV)} {ep:Nat} {k:Int} {x:CV} (hd:σ d=some (.idict es ep)) (h:Q ((es.lookup k).getD x) σ):OW c n VR [.ref d,.int k,x] (zQ (.builtin "dict.get")) Q σ :=
 ow3 fun A s v w y _ G hv hw hy=>by
  obtain rfl:=zO hv
  obtain ⟨t,rfl⟩:=zz hw
  refine zm (G.idict hd) ?_;intro kvs D R _
  refine call_meetsIn PySem.F.slot_dict_get D.dictOf.typeIs PySem.F.entry_dict_get (PySem.F.args_dict_get_3 _ _ _) (meets_dict_get_default (PySem.intKind c.prog c.w) d (intKind_is c.prog c.w k t) (G.low _ _ hd) y) (z0 _ D.dictOf.mapOf (PG.same G (g:=(es.lookup k).getD x) ?_ h))
  have:=R.look k
  split at this
  ·rename_i cv e;refine za (this) ?_;intro v hv r;rw [hv,e];exact r
  ·rename_i e;rw [this,e];exact hy
structure setF (o i v:CV) (c:Cx) (n:Nat) (Q:Sto->Prop) (σ:Sto):Prop where
 go:∀ A s vo vi vv,Room n A->SG c σ s->VR s.heap o vo->VR s.heap i vi->VR s.heap v vv->wpAny (model c.prog c.w) A (setItem vo vi vv) (PG c UR (fun _ σ'=>Q σ') σ s) Ef s
theorem ku {o i:Expr} {pos:Pos} {v:CV} {Q:Loc->Sto->Prop} (h:WE c n env own o (fun ov σ₁=>WE c n env own i (fun iv σ₂=>setF ov iv v c n (fun σ₃=>Q ρ σ₃) σ₂) ρ σ₁) ρ σ):WA c n env own (.Subscript o i pos) v Q ρ σ :=
 .mk fun A s w hR G F rw_=>by
  rw [arm_assign_Subscript]
  refine wpAny_bind (wpAny_holding (h.on0 hR G F (fun ov s₁ g σ₁ r G1 F₁ K1 h₁=>?_)))
  refine wpAny_bind (wpAny_holding (h₁.on0 hR G1 F₁ (fun iv s₂ gi σ₂ ri G2 F₂ K2 h₂=>?_)))
  have T₂:=G1.stayF F₁ K2
  refine wpAny_bind (wpAny_standAt (wpAny_bind (wpAny_holding (wpAny_mono (h₂.go A s₂ ov iv w hR G2 (r.mono T₂) ri ((rw_.mono (G.stayF F K1)).mono T₂)) (fun _ s₃ ⟨_,σ₃,_,G3,K3,q⟩=>?_) fun _ _ x=>x))))
  exact wpAny_release ⟨(),ρ,σ₃,trivial,G3,F₂.step (G2.stay K3) K3,(K1.trans K2).trans (K3.own (by simp)),q⟩
theorem jE {d:Addr} {es:List (Str × CV)} {ep:Nat} {k:Str} {v:CV} {Q:Sto->Prop} (hd:σ d=some (.sdict es ep)) (hl:es.length<100000) (h:∀ ep',Q (upd σ d (.sdict (stor es k v) ep'))):setF (.ref d) (.str k) v c n Q σ :=
 .mk fun A s vo vi vv _ G ro ri rv=>by
  obtain rfl:=zO ro
  obtain ⟨t,rfl⟩:=yN ri
  refine zm (G.sdict hd) ?_;intro kvs D R _
  refine wpAny_setItem_pairs (strKind_is c.prog c.w k t) D.dictOf (fun h' D' hs=>?_) (by rw [R.length,sizeLine_eq];exact o19 _ hl)
  obtain ⟨ep',D''⟩:=D'.dictAt
  refine zh (G.upd (h':=h') (t:=s.toks+1) (own:=[]) (co':=.sdict (stor es k v) ep') hd (fun _ z=>nomatch z) (fun b o e nb _=>(hs.2 b nb).trans e) (fun T=>(zt _ D'' ((R.mono T).stored (rv.mono T)) (by have:=yz (es:=es) (k:=k) (v:=v);exact o20 _ _ this hl)))) ?_;intro G' K' T'
  exact ⟨(),_,trivial,G',K',h ep'⟩
theorem iZ {d:Addr} {es:List (Int × CV)} {ep:Nat} {k:Int} {v:CV} {Q:Sto->Prop} (hd:σ d=some (.idict es ep)) (hl:es.length<100000) (h:∀ ep',Q (upd σ d (.idict (stor es k v) ep'))):setF (.ref d) (.int k) v c n Q σ :=
 .mk fun A s vo vi vv _ G ro ri rv=>by
  obtain rfl:=zO ro
  obtain ⟨t,rfl⟩:=zz ri
  refine zm (G.idict hd) ?_;intro kvs D R _
  refine wpAny_setItem_pairs (intKind_is c.prog c.w k t) D.dictOf (fun h' D' hs=>?_) (by rw [R.length,sizeLine_eq];exact o19 _ hl)
  obtain ⟨ep',D''⟩:=D'.dictAt
  refine zh (G.upd (h':=h') (t:=s.toks+1) (own:=[]) (co':=.idict (stor es k v) ep') hd (fun _ z=>nomatch z) (fun b o e nb _=>(hs.2 b nb).trans e) (fun T=>(zt _ D'' ((R.mono T).stored (rv.mono T)) (by have:=yz (es:=es) (k:=k) (v:=v);exact o20 _ _ this hl)))) ?_;intro G' K' T'
  exact ⟨(),_,trivial,G',K',h ep'⟩
theorem ud {h:Heap} {a:Addr} {items items':Array Value} {f:Array Value->Array Value} (P:h.PlainList a items) (e:f items=items'):(h.update a (Obj.mapSeq f)).PlainList a items':=by
 obtain ⟨k,ho⟩:=P
 have e1:Obj.mapSeq f { cls:=.type "list",data:=.seq items k }={ cls:=.type "list",data:=.seq items' (if items'.size==items.size then k else k+1) }:=by simp [Obj.mapSeq,e]
 exact ⟨_,(Heap.get?_update_self _ ho (by rw [e1];rfl)).trans (congrArg some e1)⟩
theorem SG.listUpd {s:Shared} (G:SG c σ s) {a:Addr} {xs ys:List CV} {items items':Array Value} {h':Heap} {t:Nat} (ha:σ a=some (.list xs)) (P':h'.PlainList a items') (hs:∀ b o,s.heap.get? b=some o->b≠a->h'.get? b=some o) (V:VRs s.heap ys items'.toList) (hl:ys.length<=100000) :
  SG c (Mine.upd σ a (.list ys)) { s with heap:=h',toks:=t }/\Keep σ [] s.heap h' (Mine.upd σ a (.list ys)) :=
 let ⟨G',K',_⟩:=G.upd (h':=h') (t:=t) (own:=[]) (co':=.list ys) ha (fun _ z=>nomatch z) (fun b o e nb _=>hs b o e nb) (fun T=>(zt items' P' (V.mono T) hl))
 ⟨G',K'⟩
theorem i5 {a:Addr} {xs:List CV} {k:Int} {v:CV} {Q:Sto->Prop} (ha:σ a=some (.list xs)) (h0:0<=k) (hk:k<xs.length) (h:Q (upd σ a (.list (xs.set k.toNat v)))):setF (.ref a) (.int k) v c n Q σ :=
 .mk fun A s vo vi vv _ G ro ri rv=>by
  obtain rfl:=zO ro
  obtain ⟨t,rfl⟩:=zz ri
  refine zm (G.list ha) ?_;intro items q130 V hl;obtain ⟨kk,P⟩:=q130
  have esz:items.size=xs.length:=by have:=V.length;rw [← this];simp
  refine ki_setAt P h0 (o21 _ _ hk hl) (by rw [esz];exact hk) ?_
  obtain ⟨G',K'⟩:=G.listUpd (t:=s.toks) (items:=items) ha (ud (f:=(·.setIfInBounds k.toNat vv)) ⟨kk,P⟩ rfl) (fun b o e nb=>(Heap.get?_update_other _ _ (Ne.symm nb)).trans e) (ys:=xs.set k.toNat v) (by rw [Array.toList_setIfInBounds];exact V.set _ rv) (by rw [List.length_set];exact hl)
  exact ⟨(),_,trivial,G',K',h⟩
theorem y0 {a:Addr} {xs:List CV} {v:CV} (ha:σ a=some (.list xs)) (hl:xs.length<100000) (h:Q .none (upd σ a (.list (xs++[v])))):OW c n VR [.ref a,v] (zQ (.builtin "list.append")) Q σ :=
 ow2 fun A s x w _ G hv hw=>by
  obtain rfl:=zO hv
  refine zm (G.list ha) ?_;intro items P V _
  have esz:items.size=xs.length:=by have:=V.length;rw [← this];simp
  refine wpAny_list_append_plain P (fun h' P' hs=>?_) (by rw [esz,sizeLine_eq];exact o19 _ hl)
  obtain ⟨G',K'⟩:=G.listUpd (t:=s.toks) (items:=items) ha P' (fun b o e nb=>(hs.2 b nb).trans e) (ys:=xs++[v]) (by rw [Array.toList_push];exact V.append (.cons hw .nil)) (by simp;exact o22 _ hl)
  exact ⟨.none,_,qe,G',K',h⟩
theorem gK {a:Addr} {xs:List CV} {v:CV} (ha:σ a=some (.list (xs++[v]))) (h:Q v (upd σ a (.list xs))):OW c n VR [.ref a] (zQ (.builtin "list.pop")) Q σ :=
 ow1 fun A s x _ G hv=>by
  obtain rfl:=zO hv
  refine zm (G.list ha) ?_;intro items q131 V hl;obtain ⟨k,P⟩:=q131
  have esz:items.size=xs.length+1:=by have:=V.length;simp at this;exact o23 _ _ this
  refine za (V.get (i:=xs.length) (c:=v) (by simp)) ?_;intro y hy r
  refine Copied.pop_at P (y:=y) (by rw [esz];simpa using hy) (fun h' hs P'=>?_) (by rw [esz,sizeLine_eq];simp at hl;exact o24 _ hl)
  have e2:items.toList.take xs.length=items.pop.toList:=by rw [Array.toList_pop,List.dropLast_eq_take];congr 1;simp [esz]
  have V2:=V.take xs.length
  rw [List.take_left,e2] at V2
  obtain ⟨G',K'⟩:=G.listUpd (t:=s.toks) (items:=items) ha ⟨_,P'⟩ (fun b o e nb=>(hs.2 b nb).trans e) (ys:=xs) V2 (by simp at hl;exact o25 _ hl)
  exact ⟨v,_,r.mono (G.stay K'),G',K',h⟩
theorem pJ {a:Addr} {xs ys:List CV} (ha:σ a=some (.list xs)) (hl:xs.length+ys.length<=100000) (h:Q .none (upd σ a (.list (xs++ys)))):OW c n VR [.ref a,.tup ys] (zQ (.builtin "list.extend")) Q σ :=
 ow2 fun A s x w _ G hv hw=>by
  obtain rfl:=zO hv
  refine zg (xW hw) ?_;intro b items' q132 q133 V';obtain rfl:=q132;obtain ⟨k',P'⟩:=q133
  refine zm (G.list ha) ?_;intro items q134 V _;obtain ⟨k,P⟩:=q134
  have e1:items.size=xs.length:=by have:=V.length;rw [← this];simp
  have e2:items'.size=ys.length:=by have:=V'.length;rw [← this];simp
  have hz:items.size+items'.size<=sizeLine:=by rw [e1,e2,sizeLine_eq];exact o17 _ _ hl
  refine call_meets PySem.F.slot_list_extend (z0 _ P rfl) PySem.F.entry_list_extend (PySem.F.args_list_extend_2 _ _) (AutoSeq1.list_extend_list_tuple_0 a items k b items' k' (extend_door hz) (Nat.le_trans (Nat.le_add_right _ _) hz) (Nat.le_succ_of_le hz)) ⟨P,P',?_⟩
  obtain ⟨G',K'⟩:=G.listUpd (t:=s.toks) (items:=items) ha (ud (f:=(·++items')) ⟨k,P⟩ rfl) (fun b o e nb=>(Heap.get?_update_other _ _ (Ne.symm nb)).trans e) (ys:=xs++ys) (by rw [Array.toList_append];exact V.append V') (by rw [List.length_append];exact hl)
  exact ⟨.none,_,qe,G',K',h⟩
theorem qh {h:Heap} {x:Int} {xs:List Int} {vs:List Value} (V:VRs h (xs.map .int) vs) {j:Nat} {y:Int} (e:xs[j]?=some y):∃ v,vs[j]?=some v/\lT x v=(y==x):=by
 refine za (V.get (i:=j) (c:=.int y) (by rw [List.getElem?_map,e];rfl)) ?_;intro v hv r
 obtain ⟨t,rfl⟩:=zz r
 exact (z0 _ hv rfl)
theorem kw {a:Addr} {xs:List Int} {x:Int} {j:Nat} (ha:σ a=some (.list (xs.map .int))) (hj:xs[j]?=some x) (hno:∀ m,m<j->xs[m]?≠some x) (h:Q (.int j) σ):OW c n VR [.ref a,.int x] (zQ (.builtin "list.index")) Q σ :=
 ow2 fun A s v w _ G hv hw=>by
  obtain rfl:=zO hv
  obtain ⟨t,rfl⟩:=zz hw
  refine zm (G.list ha) ?_;intro items q137 V hl;obtain ⟨k,P⟩:=q137
  have e1:items.size=xs.length:=by have:=V.length;simp at this;exact o26 _ _ this
  have hjl:=(List.getElem?_eq_some_iff.mp hj).1
  refine call_meets PySem.F.slot_list_index (z0 _ P rfl) PySem.F.entry_list_index (PySem.F.args_list_index_2 _ _) (SeqAt.list_indexAt a items k none #[] (.int x t) (lT x) j (o27 _ _ _ hjl e1) (by simp at hl;exact o28 _ _ hjl hl) ?_ ?_) ⟨P,fun y hy=>xZ V y (Array.mem_toList_iff.mpr hy),PG.same G isInt h⟩
  ·refine za (qh (x:=x) V hj) ?_;intro u hu e
   have:items[j]'(o27 _ _ _ hjl e1)=u:=by
    have:=(List.getElem?_eq_some_iff.mp hu).2
    simpa using this
   rw [this,e];simp
  ·intro m hm hmj
   have hml:m<xs.length:=by exact o29 _ _ _ hm e1
   refine za (qh (x:=x) V (List.getElem?_eq_getElem hml)) ?_;intro u hu e
   have:items[m]'hm=u:=by
    have:=(List.getElem?_eq_some_iff.mp hu).2
    simpa using this
   rw [this,e]
   exact beq_eq_false_iff_ne.mpr fun z=>hno m hmj (by rw [List.getElem?_eq_getElem hml,z])
theorem pK (x:Value):∀ k:Nat,(List.foldl (fun x1 x2=>x1++x2) #[] (List.replicate k #[x])).toList=List.replicate k x:=by
 have:∀ (k:Nat) (acc:Array Value),(List.foldl (fun x1 x2=>x1++x2) acc (List.replicate k #[x])).toList=acc.toList++List.replicate k x:=by
  intro k
  induction k with
  | zero=>intro acc;simp
  | succ k ih=>intro acc;rw [List.replicate_succ,List.foldl_cons,ih];simp [List.replicate_succ]
 intro k
 rw [this k #[]];simp
theorem i6 {a:Addr} {x:CV} {k:Int} (ha:σ a=some (.list [x])) (h0:0<=k) (hk:k<=100000) (h:∀ d,σ d=none->Q (.ref d) (upd σ d (.list (List.replicate k.toNat x)))):OW c n VR [.ref a,.int k] (bin .Mult) Q σ :=
 ow2 fun A s v w _ G hv hw=>by
  obtain rfl:=zO hv
  obtain ⟨u,rfl⟩:=zz hw
  refine zm (G.list ha) ?_;intro items q139 V _;obtain ⟨kk,hl⟩:=q139
  refine zg (V.inv) ?_;intro y r e ry V'
  obtain rfl:=VRs.nil_iff.mp V'
  obtain rfl:items=#[y]:=by cases items;simpa using e
  refine wpAny_binaryOp_repeat_ref (T:="list") (U:="int") (by decide) (z0 _ hl rfl) (fun s'=>typeIs_int s' k u) noFill_list_mul F.fills_int_mul F.slot_int_rmul repeat_list F.slot_int_index.lookup
   (call_meets F.slot_int_rmul (typeIs_int s k u) F.entry_int_rmul (F.args_int_rmul_2 _ _) (int___rmul___int_list k u a #[y] kk)
    ⟨hl,rfl,(z0 _ hl rfl),call_meets F.slot_list_mul (z0 _ hl rfl) F.entry_list_mul (F.args_list_mul_2 _ _)
     (AutoListH.list___mul___list_int_3 a #[y] kk k u (by simp [Builtin.List.listFitsIndex];exact o30 _ h0 hk) (by simp;exact o31 _ hk) (by simp [Builtin.List.listTooLong,sizeLine];exact o32 _ hk))
     ⟨hl,PG.newList (t:=s.toks) G (Nat.le_refl _) (zl _ _) xC ?_ (by simp;exact o33 _ hk) h⟩⟩)
  have:(#[y]:Array Value).isEmpty=false:=rfl
  rw [if_neg (by rw [this];decide),pK]
  exact VRs.replicate ry _
theorem mK {a:CV} {b:Bool} (hb:match a with | .bool _=>b=true | .int _=>b=false | .str _=>b=false | .none=>b=false | _=>False) (h:Q (.bool b) σ) {f:Value} (hf:f=.type "bool") :
  ∀ A s v,Room n A->SG c σ s->VR s.heap a v->wpAny (model c.prog c.w) A (call (.builtin "isinstance") [v,f]) (PG c VR Q σ s) Ef s:=by
 intro A s v _ G hv
 subst hf
 cases a with
 | bool x=>obtain rfl:=yO hv;subst hb;exact IsiPair.bool_bool (PG.same0 G zC h)
 | int x=>obtain ⟨t,rfl⟩:=zz hv;subst hb;exact IsiPair.int_bool (PG.same G zC h)
 | str x=>obtain ⟨t,rfl⟩:=yN hv;subst hb;exact IsiPair.str_bool (PG.same G zC h)
 | none=>obtain rfl:=xQ hv;subst hb;exact IsiPair.NoneType_bool (PG.same G zC h)
 | tup x=>exact hb.elim
 | ref x=>exact hb.elim
theorem gL {i:Int} (h:Q (.int i) σ):OW c n VR [.int i] (zQ (.type "int")) Q σ :=
 ow1 fun A s v _ G hv=>by obtain ⟨t,rfl⟩:=zz hv;exact call_int_int (PG.same0 G isInt h)
theorem qi {xs:List CV} (h:Q (.tup xs) σ):OW c n VR [.tup xs] (zQ (.type "tuple")) Q σ :=
 ow1 fun A s v _ G hv=>by
  refine zg (xW hv) ?_;intro a items q143 T V;obtain rfl:=q143
  exact call_tuple_same (zI T) (PG.same0 G (by exact (zj a items rfl T V)) h)
theorem i7 {es:List Expr} {pos:Pos} (h:WAs c n env own pos es (fun vs σ₁=>vs.length<=100000/\∀ d,σ₁ d=none->Q (.ref d) (upd σ₁ d (.list vs))) ρ σ):WE c n env own (.List es pos) Q ρ σ :=
 .mk fun A s hR G F=>wpAny_List (h.on0 hR G F (fun vs s₁ g σ₁ r G1 F₁ K1 q0=>by
  refine zY q0 ?_;intro hl q
  have e:=r.length
  obtain ⟨d,σ₄,r₄,G4,K4,q₄⟩:=PG.newList (t:=s₁.toks) (Q:=Q) (items:=vs.toArray) G1 (Nat.le_refl _) (zl _ _) xC r hl q
  exact ⟨by rw [e,sizeLine_eq];exact o14 _ hl,d,ρ,σ₄,r₄,G4,F₁.step (G1.stay K4) K4,K1.trans (K4.own (by simp)),rfl,q₄⟩))
theorem kx {es:List Expr} {k:Nat} {pos:Pos} (h:WAs c n env own pos es (fun vs σ₁=>vs.length<=1000/\Q (.tup vs) σ₁) ρ σ):WE c n env own (.Tuple es k pos) Q ρ σ :=
 .mk fun A s hR G F=>wpAny_Tuple (h.on0 hR G F (fun vs s₁ g σ₁ r G1 F₁ K1 q0=>by
  refine zY q0 ?_;intro hl q
  have e:=r.length
  refine zh (G1.grow (h':=s₁.heap.push { cls:=.type "tuple",data:=.seq vs.toArray }) (t:=s₁.toks) (zl _ _)) ?_;intro G' K' T'
  refine ⟨by rw [e,sizeLine_eq];exact o34 _ hl,.tup g,ρ,σ₁,?_,G',F₁.step T' K',K1.trans (K'.own (by simp)),rfl,q⟩
  exact (zj _ vs.toArray rfl (⟨0,Heap.get?_push_size _ rfl⟩) (r.mono T'))))
theorem uS {pos:Pos} (h:∀ d,σ d=none->Q (.ref d) (upd σ d (.sdict [] 0))):WE c n env own (.Dict [] [] pos) Q ρ σ :=
 .mk fun A s hR G F=>wpAny_Dict_empty (by
  refine zh (G.new (h':=s.heap.push { cls:=.type "dict",data:=.dict #[] }) (co:=.sdict [] 0) (t:=s.toks) (Nat.le_refl _) (zl _ _) (fun T=>(zt ([]) ((wf _ (#[]) (Heap.get?_push_size _ rfl) (⟨rfl,rfl,rfl⟩) rfl (fun _ he=>by simp at he) (.nil) (.nil))) rfl (by simp)))) ?_;intro G' K' T'
  exact ⟨.ref _,ρ,_,wk,G',F.step T' K',K'.own (by simp),rfl,h _ (G.top (Nat.le_refl _))⟩)
theorem mL {pos:Pos} (h:∀ d,σ d=none->Q (.ref d) (upd σ d (.idict [] 0))):WE c n env own (.Dict [] [] pos) Q ρ σ :=
 .mk fun A s hR G F=>wpAny_Dict_empty (by
  refine zh (G.new (h':=s.heap.push { cls:=.type "dict",data:=.dict #[] }) (co:=.idict [] 0) (t:=s.toks) (Nat.le_refl _) (zl _ _) (fun T=>(zt ([]) ((wf _ (#[]) (Heap.get?_push_size _ rfl) (⟨rfl,rfl,rfl⟩) rfl (fun _ he=>by simp at he) (.nil) (.nil))) rfl (by simp)))) ?_;intro G' K' T'
  exact ⟨.ref _,ρ,_,wk,G',F.step T' K',K'.own (by simp),rfl,h _ (G.top (Nat.le_refl _))⟩)
end

noncomputable def Moved (its:List Addr) (s s':Shared):Prop:=(∃ h t,s'={ s with heap:=h,toks:=t })/\∀ b o,s.heap.get? b=some o->b∉its->s'.heap.get? b=some o
structure Iter (c:Cx) (tgt:Expr) (it:Value) (its:List Addr) (src:Sto->Prop) (I:List CV->Heap->Prop):Prop where
 raw:∀ xs h,I xs h->∀ a∈its,∃ o,h.get? a=some o/\∀ x n,o.data≠.seq x n
 keep:∀ xs h h',I xs h->(∀ a∈its,∀ o,h.get? a=some o->h'.get? a=some o)->zv h h'->I xs h'
 self:∀ A s xs (Q:Value->Shared->Prop) (E:Value->Shared->Prop),I xs s.heap->Q it s->wpAny (model c.prog c.w) A (pyIter it) Q E s
 next:∀ A s σ xs,A.handled=none->SG c σ s->src σ->I xs s.heap->wpAny (model c.prog c.w) A (pyNext it) (fun r s₁=>match r with
  | none=>xs=[]/\Moved its s s₁
  | some v=>wpAny (model c.prog c.w) A (letOwnedTupleGo tgt it v) (fun _ s₂=>∃ x r,xs=x::r/\VR s₂.heap x v/\I r s₂.heap/\Moved its s s₂) Ef s₁) Ef s
section
variable {c:Cx} {n:Nat} {env:Env} {own:List Addr} {ρ:Loc} {σ:Sto}
theorem Moved.tup {its:List Addr} {s s':Shared} (M:Moved its s s') (hr:∀ a∈its,∃ o,s.heap.get? a=some o/\∀ x n,o.data≠.seq x n):zv s.heap s'.heap:=by
 intro b items z1;obtain ⟨k,e⟩:=z1
 refine ⟨k,M.2 b _ e fun hb=>?_⟩
 refine za (hr b hb) ?_;intro o ho hn
 rw [e] at ho;cases ho
 exact hn _ _ rfl
theorem SG.moved {its:List Addr} {s s':Shared} (G:SG c σ s) (M:Moved its s s') (T:zv s.heap s'.heap) (hi:∀ a∈its,σ a=none/\c.base.get? a=none):SG c σ s':=by
 obtain ⟨q144,K⟩:=M;refine zL (q144) ?_;intro h t q145;obtain rfl:=q145
 exact G.ofOwn (own:=its) hi T K
theorem FR.moved {its:List Addr} {h h':Heap} (F:FR c env own ρ σ h) (T:zv h h') (K:∀ b o,h.get? b=some o->b∉its->h'.get? b=some o) (ho:∀ a∈own,a∉its) (hc:∀ x a,env.cells.lookup x=some a->a∉its):FR c env own ρ σ h':=by
 have hk:∀ a∈own,∀ o,h.get? a=some o->h'.get? a=some o:=fun a ha o e=>K a o e (ho a ha)
 have hcc:∀ x a,env.cells.lookup x=some a->∀ v,h.IsCell a v->h'.IsCell a v:=fun x a hx v q146=>za q146 fun o e d=>(z0 o (K a o e (hc x a hx)) d)
 refine ⟨F.kind,F.glob,F.built,?_,?_,?_,F.apart,F.lown,?_⟩
 ·refine za (F.ns) ?_;intro m hn hm
  refine (z0 m (hn.at fun o e=>hk _ F.lown o e) (fun x cv a b=>?_))
  refine za (hm x cv a b) ?_;intro v q r
  exact (z0 v q (r.mono T))
 ·intro x cv a b
  refine zg (F.cell x cv a b) ?_;intro ad v q r t
  exact (zj ad v q (hcc x ad q _ r) (t.mono T))
 ·intro x a hx
  obtain ⟨nn,v₀,q⟩:=F.alive x a hx
  exact ⟨nn,v₀,hcc x a hx _ q⟩
 ·intro a ha
  refine zh (F.ownok a ha) ?_;intro nn b q148;refine za (q148) ?_;intro o e d
  exact ⟨nn,b,(z0 o (hk a ha o e) d)⟩
structure Off (c:Cx) (env:Env) (own:List Addr) (σ0:Sto) (s₀:Shared) (a:Addr):Prop where
 new:∀ o,s₀.heap.get? a=some o->σ0 a=none->a∈own
 own:a∉own
 cell:∀ x,env.cells.lookup x≠some a
 base:c.base.get? a=none
theorem Off.mk' {σ0 σ₁:Sto} {s₀ s₁:Shared} {a:Addr} (G:SG c σ₁ s₁) (F:FR c env own ρ σ₁ s₁.heap) (K:Keep σ0 own s₀.heap s₁.heap σ₁) (h:s₁.heap.objs.size<=a):Off c env own σ0 s₀ a:=by
 have hn:∀ o,s₁.heap.get? a≠some o:=fun o e=>absurd (Heap.lt_size e) (Nat.not_lt.mpr h)
 refine ⟨fun o e nb=>?_,fun hb=>?_,fun x e=>?_,G.topB h⟩
 ·by_cases q:a∈own
  ·exact q
  ·exact absurd (K a o e nb q).1 (hn o)
 ·refine zh (F.ownok a hb) ?_;intro _ _ q149;refine za (q149) ?_;intro o e _
  exact hn o e
 ·obtain ⟨_,q150⟩:=F.alive x a e;refine y6 (q150) ?_;intro _ o q _
  exact hn o q
structure WIt (c:Cx) (n:Nat) (env:Env) (own:List Addr) (tgt e:Expr) (Q:List CV->(Sto->Prop)->Sto->Prop) (ρ:Loc) (σ:Sto):Prop where
 go:∀ A s,Room n A->SG c σ s->FR c env own ρ σ s.heap->wpAny (model c.prog c.w) A (eval e env) (fun x s₁=>wpAny (model c.prog c.w) A (pyIter x) (fun it s₂=>∃ xs src σ₂ its I,Iter c tgt it its src I/\I xs s₂.heap/\src σ₂ /\
  (∀ a∈its,Off c env own σ s a/\σ₂ a=none)/\SG c σ₂ s₂/\FR c env own ρ σ₂ s₂.heap/\Keep σ own s.heap s₂.heap σ₂/\Q xs src σ₂) Ef s₁) Ef s
structure Turn (c:Cx) (σ0:Sto) (s₀:Shared) (env:Env) (own its:List Addr) (I:List CV->Heap->Prop) (xs:List CV) (ρ:Loc) (σ:Sto) (s:Shared):Prop where
 it:I xs s.heap
 sg:SG c σ s
 fr:FR c env own ρ σ s.heap
 kp:Keep σ0 own s₀.heap s.heap σ
 off:∀ a∈its,Off c env own σ0 s₀ a/\σ a=none
theorem Turn.rest {σ0:Sto} {s₀:Shared} {its:List Addr} {I:List CV->Heap->Prop} {xs:List CV} {s s':Shared} {ρ':Loc}
  (t:Turn c σ0 s₀ env own its I xs ρ' σ s) (M:Moved its s s') (T:zv s.heap s'.heap):SG c σ s'/\FR c env own ρ' σ s'.heap/\Keep σ0 own s₀.heap s'.heap σ:=by
 refine ⟨t.sg.moved M T (fun a ha=>⟨(t.off a ha).2,(t.off a ha).1.base⟩),t.fr.moved T M.2 (fun a ha hb=>(t.off a hb).1.own ha) (fun x a hx hb=>(t.off a hb).1.cell x hx),fun b o e nb hb=>?_⟩
 obtain ⟨e1,n1⟩:=t.kp b o e nb hb
 exact ⟨M.2 b o e1 (fun z=>hb ((t.off b z).1.new o e nb)),n1⟩
theorem Turn.moved {σ0:Sto} {s₀:Shared} {tgt:Expr} {it:Value} {its:List Addr} {src:Sto->Prop} {I:List CV->Heap->Prop} {xs xs':List CV} {s s':Shared} (It:Iter c tgt it its src I) {ρ':Loc}
  (t:Turn c σ0 s₀ env own its I xs ρ' σ s) (M:Moved its s s') (hI:I xs' s'.heap):Turn c σ0 s₀ env own its I xs' ρ' σ s':=by
 have T:=M.tup (It.raw _ _ t.it)
 refine zh (t.rest M T) ?_;intro x1 x2 x3
 exact ⟨hI,x1,x2,x3,t.off⟩
theorem Turn.went {σ0 σ':Sto} {s₀:Shared} {tgt:Expr} {it:Value} {its:List Addr} {src:Sto->Prop} {I:List CV->Heap->Prop} {xs:List CV} {s s':Shared} (It:Iter c tgt it its src I) {ρ' ρ'':Loc}
  (t:Turn c σ0 s₀ env own its I xs ρ' σ s) (G':SG c σ' s') (F':FR c env own ρ'' σ' s'.heap) (K:Keep σ own s.heap s'.heap σ'):Turn c σ0 s₀ env own its I xs ρ'' σ' s':=by
 refine ⟨It.keep _ _ _ t.it (fun a ha o e=>(K a o e (t.off a ha).2 (t.off a ha).1.own).1) (t.sg.stayF t.fr K),G',F',t.kp.trans K,fun a ha=>⟨(t.off a ha).1,?_⟩⟩
 refine za (It.raw _ _ t.it a ha) ?_;intro o e _
 exact (K a o e (t.off a ha).2 (t.off a ha).1.own).2
theorem ky {e:Expr} {pos:Pos} {Q:CF->Loc->Sto->Prop} (h:WE c n env own e (fun v σ₁=>v=.none/\Q .next ρ σ₁) ρ σ)
  (hi:interactive env=false) (hs:swapsWith e none pos.line env=pure false):WS c n env own (.Expr e pos) Q ρ σ :=
 .mk fun A s hR G F=>wpAny_Expr (h.on0 hR G F (fun v s₁ g σ' r G' F' K q0=>by
  refine zY q0 ?_;intro e2 q
  subst e2
  obtain rfl:=xQ r
  exact ⟨.next,ρ,σ',rfl,G',F',K,q⟩)) hi hs
end

section
variable {c:Cx} {n:Nat} {env:Env} {own:List Addr} {ρ:Loc} {σ:Sto}
theorem Moved.same {it:Addr} {s:Shared} {h':Heap} {t:Nat} (hs:Heap.SameBut it s.heap h'):Moved [it] s { s with heap:=h',toks:=t } :=
 ⟨(zZ h' t rfl),fun b o e nb=>(hs.2 b (by simpa using nb)).trans e⟩
theorem Moved.same0 {it:Addr} {s:Shared} {h':Heap} (hs:Heap.SameBut it s.heap h'):Moved [it] s { s with heap:=h' }:=Moved.same (t:=s.toks) hs
theorem Moved.ext {it:Addr} {s:Shared} {h':Heap} (hs:Heap.ExtBut it s.heap h'):Moved [it] s { s with heap:=h' } :=
 ⟨(zZ h' s.toks rfl),fun b o e nb=>hs b o (by simpa using nb) e⟩
theorem xl {α:Type} {xs:List α} {i:Nat} {x:α} (h:xs[i]?=some x):xs.drop i=x::xs.drop (i+1):=by
 obtain ⟨hi,e⟩:=List.getElem?_eq_some_iff.mp h
 rw [← e];exact List.drop_eq_getElem_cons hi
theorem VRs.none {h:Heap} {cs:List CV} {vs:List Value} (V:VRs h cs vs) {i:Nat} (e:cs[i]?=none):vs[i]?=none:=by
 rw [List.getElem?_eq_none_iff] at e ⊢
 rw [V.length];exact e
theorem pL (a it:Addr) (tgt:Expr) (xs:List CV):Iter c tgt (.ref it) [it] (fun σ=>σ a=some (.list xs)) (fun r h=>∃ i,h.IsListIter it a i/\r=xs.drop i):=by
 refine ⟨?_,?_,?_,?_⟩
 ·intro r h z1 b hb;refine za (z1) ?_;intro i q157 _;refine zm (q157) ?_;intro o e _ d
  rw [List.mem_singleton] at hb;subst hb
  exact (z0 o e (fun x n q=>by rw [d] at q;cases q))
 ·intro r h h' z2 k T;refine za (z2) ?_;intro i x e
  exact (z0 i (x.at (k it (by simp))) e)
 ·intro A s r Q E z3 h;refine za (z3) ?_;intro i x _
  exact wpAny_pyIter_listiter x h
 ·intro A s σ r hh G ha z4;refine za (z4) ?_;intro i x q158;obtain rfl:=q158
  refine zm (G.list ha) ?_;intro items P V hl
  cases hx:xs[i]? with
  | none =>
   refine wpAny_pyNext_list_end hh x P.isList (by simpa using V.none hx) fun h' hs=>⟨?_,Moved.ext hs⟩
   rw [List.drop_eq_nil_iff];simpa using hx
  | some y =>
   refine za (V.get hx) ?_;intro v hv r
   refine wpAny_pyNext_list_item x P.isList (by simpa using hv) fun h' x' hs=>letGo_listiter x' (zH y _ (xl hx) (?_) ((z0 (i+1) x' rfl)) (Moved.same0 hs))
   refine r.mono ((Moved.same0 hs).tup fun b hb=>?_)
   rw [List.mem_singleton] at hb;subst hb
   refine zm (x) ?_;intro o e _ d
   exact (z0 o e (fun x n q=>by rw [d] at q;cases q))
theorem mM (a it:Addr) (tgt:Expr) (items:Array Value) (xs:List CV):Iter c tgt (.ref it) [it] (fun _=>True) (fun r h=>∃ i,h.IsTupleIter it a i/\pt h a items/\VRs h xs items.toList/\r=xs.drop i):=by
 refine ⟨?_,?_,?_,?_⟩
 ·intro r h z5 b hb;refine za (z5) ?_;intro i q159 _;refine zm (q159) ?_;intro o e _ d
  rw [List.mem_singleton] at hb;subst hb
  exact (z0 o e (fun x n q=>by rw [d] at q;cases q))
 ·intro r h h' z6 k T;refine wc (z6) ?_;intro i q160 t V e;refine za (q160) ?_;intro o x d
  exact (zN i ((z0 o (k it (by simp) o x) d)) (T _ _ t) (V.mono T) e)
 ·intro A s r Q E z7 h;refine za (z7) ?_;intro i x _
  exact wpAny_pyIter_tupleiter x h
 ·intro A s σ r hh G _ z8;refine wc (z8) ?_;intro i x t V q161;obtain rfl:=q161
  have hr:∀ b∈[it],∃ o,s.heap.get? b=some o/\∀ x n,o.data≠.seq x n:=fun b hb=>by
   rw [List.mem_singleton] at hb;subst hb
   refine zm (x) ?_;intro o e _ d
   exact (z0 o e (fun x n q=>by rw [d] at q;cases q))
  cases hx:xs[i]? with
  | none =>
   refine wpAny_pyNext_tuple_end hh x (zI t) (by simpa using V.none hx) fun h' hs=>⟨?_,Moved.ext hs⟩
   rw [List.drop_eq_nil_iff];simpa using hx
  | some y =>
   refine za (V.get hx) ?_;intro v hv r
   refine wpAny_pyNext_tuple_item x (zI t) (by simpa using hv) fun h' x' hs=>letGo_tupleiter x' ?_
   have T:=(Moved.same0 hs).tup hr
   exact (zH y _ (xl hx) (r.mono T) ((zN (i+1) x' (T _ _ t) (V.mono T) rfl)) (Moved.same0 hs))
noncomputable def rng (a d:Int):Nat->List CV
 | 0=>[]
 | k+1=>.int a::rng (a+d) d k
theorem qj {tgt:Expr} {it:Addr} {i:Int} {t:Tok}:letOwnedTupleGo tgt (.ref it) (.int i t)=pure ():=by cases tgt <;> rfl
theorem qk (it:Addr) (tgt:Expr) (d:Int):Iter c tgt (.ref it) [it] (fun _=>True) (fun r h=>∃ a k,IsRangeIter h it a ((k:Nat):Int) d/\r=rng a d k):=by
 refine ⟨?_,?_,?_,?_⟩
 ·intro r h z9 b hb;refine y6 (z9) ?_;intro a k e _
  rw [List.mem_singleton] at hb;subst hb
  exact (z0 _ e (fun x n q=>by cases q))
 ·intro r h h' z10 kk T;refine y6 (z10) ?_;intro a k x e
  exact (zV a k (kk it (by simp) _ x) e)
 ·intro A s r Q E z11 h;refine y6 (z11) ?_;intro a k x _
  exact wpAny_pyIter_rangeiter x h
 ·intro A s σ r hh G _ z12;refine y6 (z12) ?_;intro a k x q162;obtain rfl:=q162
  cases k with
  | zero=>exact wpAny_pyNext_range_end hh x (by simp) fun h' hs=>⟨rfl,Moved.ext hs⟩
  | succ k =>
   refine wpAny_pyNext_range_item x (o35 _) fun h' x' hs=>?_
   refine wpAny_mono (Q:=fun _ s'=>s'={ s with heap:=h',toks:=s.toks+1 }) ?_ (fun _ s' e=>?_) fun _ _ x=>x
   ·rw [qj];exact wpAny_pure rfl
   ·subst e
    refine (zH (.int a) (rng (a+d) d k) rfl isInt ((zV (a+d) k (?_) rfl)) (Moved.same hs))
    rw [show ((k+1:Nat):Int)-1=(k:Int) by exact o36 _] at x'
    exact x'
theorem PairRel.get {h:Heap} {K:Type}:∀ {es:List (K × CV)} {kvs:List (K × Value)} {i:Nat},PairRel h es kvs->(kvs.map (·.1))[i]?=(es.map (·.1))[i]?
 | [],kvs,i,x=>by obtain rfl:=x;rfl
 | e::es,kvs,i,x=>by
  refine zM (x) ?_;intro kv r q163 a _ b;obtain rfl:=q163
  cases i with
  | zero=>simp [a]
  | succ i=>simpa using PairRel.get b
theorem sU {prog:Program} {w:World} {k:Int} {key:Value} (h:(intKind prog w).is k key=true):∃ t,key=.int k t:=by
 cases key with
 | int n t=>exact ⟨t,(by have:n=k:=(by simpa [intKind,Value.isInt] using h);rw [this])⟩
 | _=>simp [intKind,Value.isInt] at h
theorem pM (d it:Addr) (tgt:Expr) (es:List (Int × CV)) (ep:Nat):Iter c tgt (.ref it) [it] (fun σ=>σ d=some (.idict es ep)) (fun r h=>∃ i,h.IsKeyIter it d i es.length ep/\r=(es.map fun e=>CV.int e.1).drop i):=by
 refine ⟨?_,?_,?_,?_⟩
 ·intro r h z13 b hb;refine za (z13) ?_;intro i q164 _;refine zm (q164) ?_;intro o e _ dd
  rw [List.mem_singleton] at hb;subst hb
  exact (z0 o e (fun x n q=>by rw [dd] at q;cases q))
 ·intro r h h' z14 k T;refine za (z14) ?_;intro i q165 e;refine za (q165) ?_;intro o x dd
  exact (z0 i ((z0 o (k it (by simp) o x) dd)) e)
 ·intro A s r Q E z15 h;refine za (z15) ?_;intro i x _
  exact wpAny_pyIter_keyiter x h
 ·intro A s σ r hh G ha z16;refine za (z16) ?_;intro i x q166;obtain rfl:=q166
  refine zm (G.idict ha) ?_;intro kvs D R hl
  rw [← R.length] at x
  have hg:=R.get (i:=i)
  cases hx:kvs[i]? with
  | none =>
   refine wpAny_pyNext_dict_end hh x D hx fun h' hs=>⟨?_,Moved.ext hs⟩
   rw [List.drop_eq_nil_iff,List.length_map,← R.length];simpa using hx
  | some kv =>
   obtain ⟨k,v⟩:=kv
   refine wpAny_pyNext_dict_item x D hx fun key h' hk x' hs=>letGo_keyiter x' ?_
   obtain ⟨t,rfl⟩:=sU hk
   have hi:(es.map fun e=>CV.int e.1)[i]?=some (.int k):=by
    rw [List.getElem?_map,hx] at hg
    rw [List.getElem?_map] at hg ⊢
    cases q:es[i]? with
    | none=>rw [q] at hg;simp at hg
    | some e=>rw [q] at hg;simp at hg;simp [hg]
   exact (zH (.int k) _ (xl hi) isInt ((z0 (i+1) (by rw [← R.length];exact x') rfl)) (Moved.same0 hs))
noncomputable def yA (i:Int):List CV->List CV
 | []=>[]
 | x::r=>.tup [.int i,x]::yA (i+1) r
theorem pN (a e it:Addr) (elts:List Expr) (k1:Nat) (p1:Pos) (xs:List CV) (hne:e≠it):Iter c (.Tuple elts k1 p1) (.ref e) [e,it] (fun σ=>σ a=some (.list xs)) (fun r h=>∃ i old,IsEnum h e it ((i:Nat):Int) old/\h.IsListIter it a i/\r=yA i (xs.drop i)):=by
 have raw:∀ {h:Heap} {i old},IsEnum h e it ((i:Nat):Int) old->h.IsListIter it a i->∀ b∈[e,it],∃ o,h.get? b=some o/\∀ x n,o.data≠.seq x n:=fun x y b hb=>by
  simp only [List.mem_cons,List.not_mem_nil,or_false] at hb
  rcases hb with rfl | rfl
  ·exact (z0 _ x (fun x n q=>by cases q))
  ·refine zm (y) ?_;intro o ho _ d
   exact (z0 o ho (fun x n q=>by rw [d] at q;cases q))
 refine ⟨?_,?_,?_,?_⟩
 ·intro r h z17;refine zg (z17) ?_;intro i old x y _
  exact raw x y
 ·intro r h h' z18 k T;refine zg (z18) ?_;intro i old x y q
  exact (zj i old (k e (by simp) _ x) (y.at (k it (by simp))) q)
 ·intro A s r Q E z19 h;refine y6 (z19) ?_;intro i old x _
  exact wpAny_pyIter_enum x h
 ·intro A s σ r hh G ha z20;refine zg (z20) ?_;intro i old x y q168;obtain rfl:=q168
  refine zm (G.list ha) ?_;intro items P V hl
  cases hx:xs[i]? with
  | none =>
   refine wpAny_pyNext_enum_end hh x y P.isList (by simpa using V.none hx) fun h' hs=>⟨?_,⟨(zZ h' s.toks rfl),fun b o q nb=>hs b o (by intro z;exact nb (by simp [z])) q⟩⟩
   have:xs.drop i=[]:=by rw [List.drop_eq_nil_iff];simpa using hx
   rw [this];rfl
  | some z =>
   refine za (V.get hx) ?_;intro v hv r
   refine wpAny_pyNext_enum_item x y P.isList (by simpa using hv) hne fun h₁ heo hit1 ht₁ hz1 hk₁=>?_
   refine wpAny_letOwnedTupleGo_enum heo fun h₂ he2 hs₂=>?_
   have hlt:e<s.heap.objs.size:=Heap.lt_size x
   have M:∀ b o,s.heap.get? b=some o->b∉[e,it]->h₂.get? b=some o:=fun b o q nb=>by
    simp only [List.mem_cons,List.not_mem_nil,or_false,not_or] at nb
    exact (hs₂.2 b nb.1).trans (hk₁ b o nb.1 nb.2 q)
   have M':Moved [e,it] s { s with heap:=h₂,toks:=s.toks+1 }:=⟨(zZ h₂ _ rfl),M⟩
   have T:=M'.tup (raw x y)
   refine (zH (.tup [.int i,z]) (yA (i+1) (xs.drop (i+1))) (by rw [xl hx];rfl) (?_) ((zj (i+1) v he2 (hit1.at fun o q=>(hs₂.2 it (Ne.symm hne)).trans q) rfl)) M')
   refine (zj s.heap.objs.size (#[.int i s.toks,v]) rfl (⟨0,(hs₂.2 _ (Nat.ne_of_gt hlt)).trans ht₁⟩) (.cons isInt (.cons (r.mono T) .nil)))
end

section
variable {c:Cx} {n:Nat} {env:Env} {own:List Addr} {ρ:Loc} {σ:Sto}
theorem ql (e it:Addr) (elts:List Expr) (k1:Nat) (p1:Pos) (x:Str) (u:Tok) (hx:x.cps.size=0):Iter c (.Tuple elts k1 p1) (.ref e) [e,it] (fun _=>True) (fun r h=>∃ old,IsEnum h e it 0 old/\h.IsStrIter it "str_ascii_iterator" x u 0/\r=[]):=by
 have raw:∀ {h:Heap} {old},IsEnum h e it 0 old->h.IsStrIter it "str_ascii_iterator" x u 0->∀ b∈[e,it],∃ o,h.get? b=some o/\∀ x n,o.data≠.seq x n:=fun x y b hb=>by
  simp only [List.mem_cons,List.not_mem_nil,or_false] at hb
  rcases hb with rfl | rfl
  ·exact (z0 _ x (fun x n q=>by cases q))
  ·refine zm (y) ?_;intro o ho _ d
   exact (z0 o ho (fun x n q=>by rw [d] at q;cases q))
 refine ⟨?_,?_,?_,?_⟩
 ·intro r h z1;refine zm (z1) ?_;intro old x y _
  exact raw x y
 ·intro r h h' z2 k T;refine zm (z2) ?_;intro old x q169 q;refine za (q169) ?_;intro o y d
  exact (zt old (k e (by simp) _ x) ((z0 o (k it (by simp) o y) d)) q)
 ·intro A s r Q E z3 h;refine za (z3) ?_;intro old x _
  exact wpAny_pyIter_enum x h
 ·intro A s σ r hh G _ z4;refine zm (z4) ?_;intro old x1 y q170;obtain rfl:=q170
  exact wpAny_pyNext_enum_endD (Draws.strAscii (A:=A.in1) hh it x u) x1 (by rw [hx];exact y) fun h' hs=>⟨rfl,⟨(zZ h' s.toks rfl),fun b o q nb=>hs b o (by intro z;exact nb (by simp [z])) q⟩⟩
noncomputable def pO (c:Cx) (tgt:Expr) (cv:CV) (xs:List CV) (src:Sto->Prop) (σ:Sto):Prop :=
 src σ/\∀ A s w (Q:Value->Shared->Prop),SG c σ s->VR s.heap cv w ->
  (∀ h' it I,(∀ b o,s.heap.get? b=some o->h'.get? b=some o)->s.heap.objs.size<=it->Iter c tgt (.ref it) [it] src I->I xs h'->Q (.ref it) { s with heap:=h' })->wpAny (model c.prog c.w) A (pyIter w) Q Ef s
theorem zK {tgt:Expr} {a:Addr} {xs:List CV} (ha:σ a=some (.list xs)):pO c tgt (.ref a) xs (fun σ=>σ a=some (.list xs)) σ:=by
 refine ⟨ha,fun A s w Q G r h=>?_⟩
 obtain rfl:=zO r
 refine zm (G.list ha) ?_;intro items P V hl
 exact wpAny_pyIter_list P.isList (h _ _ _ (zl _ _) (Nat.le_refl _) (pL a _ tgt xs) (z0 0 ((zt _ (Heap.get?_push_size _ rfl) rfl rfl)) rfl))
theorem tT {tgt:Expr} {xs:List CV}:pO c tgt (.tup xs) xs (fun _=>True) σ:=by
 refine ⟨trivial,fun A s w Q G r h=>?_⟩
 refine zg (xW r) ?_;intro a items q171 t V;obtain rfl:=q171
 have T:zv s.heap (s.heap.push { cls:=.type "tuple_iterator",data:=.fields #[.ref a,.int 0 0] }):=fun b its q172=>yl q172 fun k e=>⟨k,zl _ _ b _ e⟩
 exact wpAny_pyIter_tuple (zI t) (h _ _ _ (zl _ _) (Nat.le_refl _) (mM a _ tgt items xs) (zN 0 ((zt _ (Heap.get?_push_size _ rfl) rfl rfl)) (T _ _ t) (V.mono T) rfl))
theorem mN {tgt:Expr} {d:Addr} {es:List (Int × CV)} {ep:Nat} (hd:σ d=some (.idict es ep)):pO c tgt (.ref d) (es.map fun e=>CV.int e.1) (fun σ=>σ d=some (.idict es ep)) σ:=by
 refine ⟨hd,fun A s w Q G r h=>?_⟩
 obtain rfl:=zO r
 refine zm (G.idict hd) ?_;intro kvs D R hl
 exact wpAny_pyIter_dict (G.low _ _ hd) D (h _ _ _ (zl _ _) (Nat.le_refl _) (pM d _ tgt es ep) (z0 0 ((zt _ (Heap.get?_push_size _ rfl) rfl (by rw [R.length];rfl))) rfl))
theorem wm {tgt e:Expr} {Q:List CV->(Sto->Prop)->Sto->Prop} (h:WE c n env own e (fun v σ₁=>∃ xs src,pO c tgt v xs src σ₁/\Q xs src σ₁) ρ σ):WIt c n env own tgt e Q ρ σ :=
 .mk fun A s hR G F=>h.on0 hR G F (fun x s₁ g σ₁ r G1 F₁ K1 q0=>by
  refine y6 q0 ?_;intro xs src hs q
  refine hs.2 A s₁ x _ G1 r fun h' it I hk hit It hI=>?_
  refine zh (G1.grow (h':=h') (t:=s₁.toks) hk) ?_;intro G2 K2 T₂
  refine (u3 xs src σ₁ ([it]) I It hI hs.1 (fun a ha=>?_) G2 (F₁.step T₂ K2) (K1.trans (K2.own (by simp))) q)
  rw [List.mem_singleton] at ha;subst ha
  exact ⟨.mk' G1 F₁ K1 hit,G1.top hit⟩)
theorem yP {f:Value} {pos:Pos} {e:Expr} {es:List Expr} {Q:List CV->Sto->Prop} (hk:yu c f) (hplain:(backTo pos (starEach (e::es) env)).any (·.1)=false) (he:starEach (e::es) env=(false,eval e env)::starEach es env)
  (h:WAs c n env own pos (e::es) Q ρ σ) {A:Around} {s:Shared} (hR:Room n A) (G:SG c σ s) (F:FR c env own ρ σ s.heap) {P:Value->Shared->Prop}
  (hP:∀ vals vs s₁ σ₁,SG c σ₁ s₁->FR c env own ρ σ₁ s₁.heap->Keep σ own s.heap s₁.heap σ₁->VRs s₁.heap vs vals->Q vs σ₁->wpAny (model c.prog c.w) A (call f vals) P Ef s₁) :
  wpAny (model c.prog c.w) A (callWith pos f [] (backTo pos (starEach (e::es) env)) []) P Ef s:=by
 refine callWith_of (P:=c.K.In) (by rw [hplain];rfl) hk ?_
 have fin:∀ (vs:List Value) s₁,PE c env own VRs (fun vs ρ' σ'=>ρ'=ρ/\Q vs σ') σ s vs s₁->c.K.In s₁.heap/\wpAny (model c.prog c.w) A (call f ([]++vs) []) P Ef s₁:=by
  intro vs s₁ z5;obtain ⟨g,ρ1,σ₁,r,G1,F₁,K1,e₁,q⟩:=z5
  subst e₁
  exact ⟨c.X.keeps G1.base,hP vs g s₁ σ₁ G1 F₁ K1 r q⟩
 have h1:=h.go A s hR G F
 rw [he] at h1 ⊢
 exact evalArgs_plain (wpAny_mono h1 (fun vs s₁ x=>fin vs s₁ x) fun _ _ x=>x)
theorem yQ {a b:Int} (ha:-1000000<=a) (ha':a<=1000000) (hb:-1000000<=b) (hb':b<=1000000):Builtin.Range.small a b 1=true:=by
 unfold Builtin.Range.small Builtin.Range.rangeFitsLong
 rw [PySem.rangeSize_one]
 simp only [Bool.and_eq_true,decide_eq_true_eq,Bool.or_eq_true]
 refine ⟨⟨⟨⟨⟨by exact o37 _ ha,by exact o38 _ ha'⟩,by exact o37 _ hb,by exact o38 _ hb'⟩,by decide,by decide⟩,?_,?_⟩,?_⟩
 ·split <;> (first | exact o39 _ _ (by assumption) | exact o40)
 ·split <;> (first | exact o41 _ _ ha hb' | exact o42)
 ·right
  rw [if_pos (by decide)]
  simp only [Bool.and_eq_true,decide_eq_true_eq]
  exact o43 _ hb hb'
theorem xm (a b:Int):Builtin.Range.rangeSize a b (-1)=if b<a then a-b else 0:=by
 unfold Builtin.Range.rangeSize
 rw [if_neg (by decide)]
 split
 ·simp
 ·rfl
theorem ue {a b:Int} (ha:-1000000<=a) (ha':a<=1000000) (hb:-1000000<=b) (hb':b<=1000000):Builtin.Range.small a b (-1)=true:=by
 unfold Builtin.Range.small Builtin.Range.rangeFitsLong
 rw [xm]
 simp only [Bool.and_eq_true,decide_eq_true_eq,Bool.or_eq_true]
 refine ⟨⟨⟨⟨⟨by exact o37 _ ha,by exact o38 _ ha'⟩,by exact o37 _ hb,by exact o38 _ hb'⟩,by decide,by decide⟩,?_,?_⟩,?_⟩
 ·split <;> (first | exact o39 _ _ (by assumption) | exact o40)
 ·split <;> (first | exact o41 _ _ hb ha' | exact o42)
 ·right
  rw [if_neg (by decide)]
  simp only [Bool.and_eq_true,decide_eq_true_eq]
  exact o44 _ hb hb'
theorem vr {tgt:Expr} {Q:List CV->(Sto->Prop)->Sto->Prop} {A:Around} {s s₁:Shared} {σ₁:Sto} {h₁:Heap} {t:Nat} {r:Addr} {a b d:Int} {k:Nat} {t1 t2 t3:Tok} (G1:SG c σ₁ s₁) (F₁:FR c env own ρ σ₁ s₁.heap) (K1:Keep σ own s.heap s₁.heap σ₁)
  (hk:∀ b o,s₁.heap.get? b=some o->h₁.get? b=some o) (hsz:s₁.heap.objs.size<=h₁.objs.size) (hr:IsRange h₁ r a b d t1 t2 t3) (hs:Builtin.Range.small a b d=true) (hn:Builtin.Range.rangeSize a b d=(k:Int)) (q:Q (rng a d k) (fun _=>True) σ₁) :
  wpAny (model c.prog c.w) A (pyIter (.ref r)) (fun it s₂=>∃ xs src σ₂ its I,Iter c tgt it its src I/\I xs s₂.heap/\src σ₂ /\
  (∀ a∈its,Off c env own σ s a/\σ₂ a=none)/\SG c σ₂ s₂/\FR c env own ρ σ₂ s₂.heap/\Keep σ own s.heap s₂.heap σ₂/\Q xs src σ₂) Ef { s₁ with heap:=h₁,toks:=t }:=by
 refine wpAny_pyIter_range hr hs ?_
 rw [hn]
 refine zh (G1.grow (h':=h₁.push { cls:=.type "range_iterator",data:=.fields #[rawInt a,rawInt (k:Int),rawInt d] }) (t:=t) (fun b o e=>zl _ _ b o (hk b o e))) ?_;intro G2 K2 T₂
 refine (u3 _ _ σ₁ ([h₁.objs.size]) _ (qk h₁.objs.size tgt d) ((zV a k (Heap.get?_push_size _ rfl) rfl)) trivial (fun x hx=>?_) G2 (F₁.step T₂ K2) (K1.trans (K2.own (by simp))) q)
 rw [List.mem_singleton] at hx;subst hx
 exact ⟨.mk' G1 F₁ K1 hsz,G1.top hsz⟩
theorem yR {tgt e:Expr} {p pos:Pos} {Q:List CV->(Sto->Prop)->Sto->Prop} (hkd:env.kindOf "range" = some .globalImplicit) (hn:nsIn c.K mainGlobals "range" = some none)
  (hplain:(backTo pos (starEach [e] env)).any (·.1)=false) (he:starEach [e] env=(false,eval e env)::starEach [] env)
  (h:WAs c n env own pos [e] (fun vs σ₁=>∃ b:Int,vs=[.int b]/\-1000000<=b/\b<=1000000/\Q (rng 0 1 b.toNat) (fun _=>True) σ₁) ρ σ):WIt c n env own tgt (.Call (.Name "range" p) [e] [] pos) Q ρ σ :=
 .mk fun A s hR G F=>wpAny_Call_NameR (zy G F hkd hn (v:=.type "range") rfl (by decide) (yP yG hplain he h hR G F fun vals vs s₁ σ₁ G1 F₁ K1 V q173=>wc q173 fun b e h1 h2 q=>by
  subst e
  refine zg (V.inv) ?_;rintro v r rfl hv V
  obtain rfl:=VRs.nil_iff.mp V
  obtain ⟨t,rfl⟩:=zz hv
  refine call_range_1 ?_
  refine vr G1 F₁ K1 (zl _ _) (by rw [Heap.size_push];exact o45 _) (IsRange.new ..) (yQ (by exact o46) (by exact o47) h1 h2) ?_ q
  rw [PySem.rangeSize_one];split <;> (first | exact o48 _ (by assumption) | exact o49 _ (by assumption))) (by decide))
theorem xn {tgt e e':Expr} {p pos:Pos} {Q:List CV->(Sto->Prop)->Sto->Prop} (hkd:env.kindOf "range" = some .globalImplicit) (hn:nsIn c.K mainGlobals "range" = some none)
  (hplain:(backTo pos (starEach [e,e'] env)).any (·.1)=false) (he:starEach [e,e'] env=(false,eval e env)::starEach [e'] env)
  (h:WAs c n env own pos [e,e'] (fun vs σ₁=>∃ a b:Int,vs=[.int a,.int b]/\-1000000<=a/\a<=1000000/\-1000000<=b/\b<=1000000/\Q (rng a 1 (b-a).toNat) (fun _=>True) σ₁) ρ σ):WIt c n env own tgt (.Call (.Name "range" p) [e,e'] [] pos) Q ρ σ :=
 .mk fun A s hR G F=>wpAny_Call_NameR (zy G F hkd hn (v:=.type "range") rfl (by decide) (yP yG hplain he h hR G F fun vals vs s₁ σ₁ G1 F₁ K1 V q176=>rN q176 fun a b e h1 h2 h3 h4 q=>by
  subst e
  refine zg (V.inv) ?_;rintro v r rfl hv V
  refine zg (V.inv) ?_;rintro w r rfl hw V
  obtain rfl:=VRs.nil_iff.mp V
  obtain ⟨t,rfl⟩:=zz hv
  obtain ⟨u,rfl⟩:=zz hw
  refine call_range_2 ?_
  refine vr G1 F₁ K1 (zl _ _) (by rw [Heap.size_push];exact o45 _) (IsRange.new ..) (yQ h1 h2 h3 h4) ?_ q
  rw [PySem.rangeSize_one];split <;> (first | exact o50 _ _ (by assumption) | exact o51 _ _ (by assumption))) (by decide))
theorem qm {tgt e e' e'':Expr} {p pos:Pos} {Q:List CV->(Sto->Prop)->Sto->Prop} (hkd:env.kindOf "range" = some .globalImplicit) (hn:nsIn c.K mainGlobals "range" = some none)
  (hplain:(backTo pos (starEach [e,e',e''] env)).any (·.1)=false) (he:starEach [e,e',e''] env=(false,eval e env)::starEach [e',e''] env)
  (h:WAs c n env own pos [e,e',e''] (fun vs σ₁=>∃ a b:Int,vs=[.int a,.int b,.int (-1)]/\-1000000<=a/\a<=1000000/\-1000000<=b/\b<=1000000/\Q (rng a (-1) (a-b).toNat) (fun _=>True) σ₁) ρ σ):WIt c n env own tgt (.Call (.Name "range" p) [e,e',e''] [] pos) Q ρ σ :=
 .mk fun A s hR G F=>wpAny_Call_NameR (zy G F hkd hn (v:=.type "range") rfl (by decide) (yP yG hplain he h hR G F fun vals vs s₁ σ₁ G1 F₁ K1 V q181=>rN q181 fun a b e h1 h2 h3 h4 q=>by
  subst e
  refine zg (V.inv) ?_;rintro v r rfl hv V
  refine zg (V.inv) ?_;rintro w r rfl hw V
  refine zg (V.inv) ?_;rintro x r rfl hx V
  obtain rfl:=VRs.nil_iff.mp V
  obtain ⟨t,rfl⟩:=zz hv
  obtain ⟨u,rfl⟩:=zz hw
  obtain ⟨z,rfl⟩:=zz hx
  refine call_range_3 (by decide) ?_ (Or.inl (PyProof.noPylong_small (by exact o52)))
  refine vr G1 F₁ K1 (zl _ _) (by rw [Heap.size_push];exact o45 _) (IsRange.new ..) (ue h1 h2 h3 h4) ?_ q
  rw [xm];split <;> (first | exact o50 _ _ (by assumption) | exact o51 _ _ (by assumption))) (by decide))
theorem mO {elts:List Expr} {k1:Nat} {p1:Pos} {e:Expr} {p pos:Pos} {Q:List CV->(Sto->Prop)->Sto->Prop} (hkd:env.kindOf "enumerate" = some .globalImplicit) (hn:nsIn c.K mainGlobals "enumerate" = some none)
  (hplain:(backTo pos (starEach [e] env)).any (·.1)=false) (he:starEach [e] env=(false,eval e env)::starEach [] env)
  (h:WAs c n env own pos [e] (fun vs σ₁=>∃ a xs,vs=[.ref a]/\σ₁ a=some (.list xs)/\Q (yA 0 xs) (fun σ=>σ a=some (.list xs)) σ₁) ρ σ):WIt c n env own (.Tuple elts k1 p1) (.Call (.Name "enumerate" p) [e] [] pos) Q ρ σ :=
 .mk fun A s hR G F=>wpAny_Call_NameR (zy G F hkd hn (v:=.type "enumerate") rfl (by decide) (yP yG hplain he h hR G F fun vals vs s₁ σ₁ G1 F₁ K1 V q188=>zg q188 fun a xs e ha q=>by
  subst e
  refine zg (V.inv) ?_;rintro v r rfl hv V
  obtain rfl:=VRs.nil_iff.mp V
  obtain rfl:=zO hv
  refine zm (G1.list ha) ?_;intro items P V hl
  refine call_enumerate_list P.isList fun h' hE hI hsz hk=>?_
  refine wpAny_pyIter_enum hE ?_
  refine zh (G1.grow (h':=h') (t:=s₁.toks) hk) ?_;intro G2 K2 T₂
  refine (u3 _ _ σ₁ _ _ (pN a (s₁.heap.objs.size+1) s₁.heap.objs.size elts k1 p1 xs (Nat.succ_ne_self _)) ((zj 0 (.none) hE hI rfl)) ha (fun x hx=>?_) G2 (F₁.step T₂ K2) (K1.trans (K2.own (by simp))) q)
  simp only [List.mem_cons,List.not_mem_nil,or_false] at hx
  rcases hx with rfl | rfl
  ·exact ⟨.mk' G1 F₁ K1 (Nat.le_succ _),G1.top (Nat.le_succ _)⟩
  ·exact ⟨.mk' G1 F₁ K1 (Nat.le_refl _),G1.top (Nat.le_refl _)⟩) (by decide))
theorem pP {elts:List Expr} {k1:Nat} {p1:Pos} {e:Expr} {p pos:Pos} {Q:List CV->(Sto->Prop)->Sto->Prop} (hkd:env.kindOf "enumerate" = some .globalImplicit) (hn:nsIn c.K mainGlobals "enumerate" = some none)
  (hplain:(backTo pos (starEach [e] env)).any (·.1)=false) (he:starEach [e] env=(false,eval e env)::starEach [] env)
  (h:WAs c n env own pos [e] (fun vs σ₁=>vs=[.str ""]/\Q [] (fun _=>True) σ₁) ρ σ):WIt c n env own (.Tuple elts k1 p1) (.Call (.Name "enumerate" p) [e] [] pos) Q ρ σ :=
 .mk fun A s hR G F=>wpAny_Call_NameR (zy G F hkd hn (v:=.type "enumerate") rfl (by decide) (yP yG hplain he h hR G F fun vals vs s₁ σ₁ G1 F₁ K1 V q190=>zY q190 fun e q=>by
  subst e
  refine zg (V.inv) ?_;rintro v r rfl hv V
  obtain rfl:=VRs.nil_iff.mp V
  obtain ⟨t,rfl⟩:=yN hv
  refine call_enumerate_str fun h' hE hI hsz hk=>?_
  rw [show strIterType ("":Str) = "str_ascii_iterator" from by rw [strIterType,show (("":Str).cps.all (·<128))=true from by decide +kernel];rfl] at hI
  refine wpAny_pyIter_enum hE ?_
  refine zh (G1.grow (h':=h') (t:=s₁.toks) hk) ?_;intro G2 K2 T₂
  refine (u3 _ _ σ₁ _ _ (ql (s₁.heap.objs.size+1) s₁.heap.objs.size elts k1 p1 "" t rfl) ((zt (.none) hE hI rfl)) trivial (fun x hx=>?_) G2 (F₁.step T₂ K2) (K1.trans (K2.own (by simp))) q)
  simp only [List.mem_cons,List.not_mem_nil,or_false] at hx
  rcases hx with rfl | rfl
  ·exact ⟨.mk' G1 F₁ K1 (Nat.le_succ _),G1.top (Nat.le_succ _)⟩
  ·exact ⟨.mk' G1 F₁ K1 (Nat.le_refl _),G1.top (Nat.le_refl _)⟩) (by decide))
end

section
variable {prog:Program} {w:World} {A:Around} {E:Value->Shared->Prop} {R:Result->Shared->Prop} {s:Shared}
theorem yB {elt:Expr} {gens:List Comprehension} {scope:Scope} {pos:Pos} {d:Nat} {it acc:Value} {env:Env} (hna:((gens)[d]?).elim false (·.is_async != 0)=false)
  (h0:codeAny (model prog w) A (.compLoop (.ListComp elt gens scope pos) d it acc env) R s)
  (h:∀ E',wpAny (model prog w) A (pyIter it) (fun it' s'=>codeAny (model prog w) A (.compLoop (.ListComp elt gens scope pos) d it' acc env) R s') E' s) :
  codeAny (model prog w) A (.compStart (.ListComp elt gens scope pos) d it acc env) R s:=by
 refine codeAny_of_tree ?_
 show wpAny _ _ ((compStart (.ListComp elt gens scope pos) d it acc env).onRaise (fun x=>do noteFrame x env;standAt theWindowsPlace)) _ _ s
 refine wpAny_notedAt ?_
 unfold compStart
 show wpAny _ _ (if (gens[d]?).elim false (·.is_async != 0)=true then _ else _) _ _ s
 rw [if_neg (by rw [hna];decide)]
 show wpAny _ _ (ask >>= _) _ _ s
 refine wpAny_bind (wpAny_askSetting (wpAny_ite ?_))
 split
 ·first
   | exact wpAny_bind (wpAny_pure (wpAny_pure (And.intro rfl h0)))
   | exact wpAny_pure (And.intro rfl h0)
 ·refine wpAny_bind (wpAny_rule ?_)
  have hh:=h (notedBy (model prog w) A env fun x s'=>R (.error x) s')
  have fin:wpAny (model prog w) (A.under (Code.compStart (elt.ListComp gens scope pos) d it acc env)) (pyIter it >>= fun it'=>again (.compLoop (.ListComp elt gens scope pos) d it' acc env)) (fun fin s'=>match fin with | .done f=>R (.ok f) s' | .again c'=>c'.quiet=true/\codeAny (model prog w) A c' R s') (notedBy (model prog w) A env fun x s'=>R (.error x) s') s :=
   wpAny_bind (wpAny_mono hh (fun it' s' h'=>wpAny_pure (And.intro rfl h')) fun _ _ x=>x)
  dsimp only
  show wpAny _ _ (match gens[d]? with | some g=>(standAt g.iter.pos >>= fun _=>pyIter it >>= fun it'=>again (.compLoop (.ListComp elt gens scope pos) d it' acc env)) | _=>(pyIter it >>= fun it'=>again (.compLoop (.ListComp elt gens scope pos) d it' acc env))) _ _ s
  cases gens[d]? with
  | none=>exact fin
  | some g=>exact wpAny_bind (wpAny_standAt fin)
theorem i8 (elt target iter:Expr) (ifs:List Expr) (scope:Scope) (pos:Pos) (it acc:Value) (env:Env) :
  compTurn (.ListComp elt [⟨target,iter,ifs,0⟩] scope pos) 0 it acc env=(standAt iter.pos >>= fun _=>pyNext it >>= fun r=>match r with
   | none=>pure (.done .next)
   | some v=>letOwnedTupleGo target it v >>= fun _=>assign target env v >>= fun _ =>
    (forIn ifs true fun c r=>if r=true then do let ok ← isTrue c env (eval c env);pure (ForInStep.yield ok) else pure (ForInStep.yield r)) >>= fun ok =>
    (if ok=true then ((do let _ ← call (.builtin "list.append") [acc,← eval elt env]) >>= fun _=>again (.compLoop (.ListComp elt [⟨target,iter,ifs,0⟩] scope pos) 0 it acc env))
     else again (.compLoop (.ListComp elt [⟨target,iter,ifs,0⟩] scope pos) 0 it acc env))):=by rfl
theorem nO (elt target iter target' iter':Expr) (ifs ifs':List Expr) (scope:Scope) (pos:Pos) (it acc:Value) (env:Env) :
  compTurn (.ListComp elt [⟨target,iter,ifs,0⟩,⟨target',iter',ifs',0⟩] scope pos) 0 it acc env=(standAt iter.pos >>= fun _=>pyNext it >>= fun r=>match r with
   | none=>pure (.done .next)
   | some v=>letOwnedTupleGo target it v >>= fun _=>assign target env v >>= fun _ =>
    (forIn ifs true fun c r=>if r=true then do let ok ← isTrue c env (eval c env);pure (ForInStep.yield ok) else pure (ForInStep.yield r)) >>= fun ok =>
    (if ok=true then (eval iter' env >>= fun x=>standAt iter'.pos >>= fun _=>foldedSetIterable iter' env x >>= fun x=>holding [x] (pyIter x) >>= fun it'=>runOwn (.compStart (.ListComp elt [⟨target,iter,ifs,0⟩,⟨target',iter',ifs',0⟩] scope pos) 1 it' acc env) env >>= fun _=>again (.compLoop (.ListComp elt [⟨target,iter,ifs,0⟩,⟨target',iter',ifs',0⟩] scope pos) 0 it acc env))
     else again (.compLoop (.ListComp elt [⟨target,iter,ifs,0⟩,⟨target',iter',ifs',0⟩] scope pos) 0 it acc env))):=by rfl
theorem kz (elt target iter target' iter':Expr) (ifs ifs':List Expr) (scope:Scope) (pos:Pos) (it acc:Value) (env:Env) :
  compTurn (.ListComp elt [⟨target,iter,ifs,0⟩,⟨target',iter',ifs',0⟩] scope pos) 1 it acc env=(standAt iter'.pos >>= fun _=>pyNext it >>= fun r=>match r with
   | none=>pure (.done .next)
   | some v=>letOwnedTupleGo target' it v >>= fun _=>assign target' env v >>= fun _ =>
    (forIn ifs' true fun c r=>if r=true then do let ok ← isTrue c env (eval c env);pure (ForInStep.yield ok) else pure (ForInStep.yield r)) >>= fun ok =>
    (if ok=true then ((do let _ ← call (.builtin "list.append") [acc,← eval elt env]) >>= fun _=>again (.compLoop (.ListComp elt [⟨target,iter,ifs,0⟩,⟨target',iter',ifs',0⟩] scope pos) 1 it acc env))
     else again (.compLoop (.ListComp elt [⟨target,iter,ifs,0⟩,⟨target',iter',ifs',0⟩] scope pos) 1 it acc env))):=by rfl
end

structure CC where
 env:Env
 own:List Addr
 ρ:Loc
 cenv:Env
 C:Addr
 D:Addr
 σ0:Sto
 s₀:Shared
structure CInv (c:Cx) (k:CC) (ys:List CV) (ρ':Loc) (σ:Sto) (s:Shared):Prop where
 sg:SG c σ s
 fo:FR c k.env k.own k.ρ σ s.heap
 fi:FR c k.cenv [k.C] ρ' σ s.heap
 kp:Keep k.σ0 k.own k.s₀.heap s.heap σ
 acc:∃ items,s.heap.PlainList k.D items/\VRs s.heap ys items.toList
 dn:σ k.D=none
structure COff (c:Cx) (k:CC):Prop where
 C:Off c k.env k.own k.σ0 k.s₀ k.C
 D:Off c k.env k.own k.σ0 k.s₀ k.D
 ne:k.D≠k.C
 cellD:∀ x,k.cenv.cells.lookup x≠some k.D
structure ItOff (c:Cx) (k:CC) (σs:Sto) (ss:Shared) (a:Addr):Prop where
 off:Off c k.env k.own k.σ0 k.s₀ a
 C:a≠k.C
 D:a≠k.D
 cell:∀ x,k.cenv.cells.lookup x≠some a
 new:∀ o,ss.heap.get? a=some o->σs a=none->a∈[k.C,k.D]
section
variable {c:Cx} {n:Nat} {k:CC} {ys:List CV} {ρ':Loc} {σ:Sto}
theorem FR.stepK {env:Env} {own own':List Addr} {ρ:Loc} {σ':Sto} {h h':Heap} (F:FR c env own ρ σ h) (T:zv h h') (K:Keep σ own' h h' σ') (ho:∀ a∈own,a∉own') (hc:∀ x a,env.cells.lookup x=some a->a∉own'):FR c env own ρ σ' h':=by
 have hk:∀ a∈own,∀ o,h.get? a=some o->h'.get? a=some o:=fun a ha o e=>(K a o e (F.ownok a ha).1 (ho a ha)).1
 have hcc:∀ x a,env.cells.lookup x=some a->∀ v,h.IsCell a v->h'.IsCell a v:=fun x a hx v q193=>za q193 fun o e d=>(z0 o ((K a o e (F.alive x a hx).1 (hc x a hx)).1) d)
 refine ⟨F.kind,F.glob,F.built,?_,?_,?_,F.apart,F.lown,?_⟩
 ·refine za (F.ns) ?_;intro m hn hm
  refine (z0 m (hn.at fun o e=>hk _ F.lown o e) (fun x cv a b=>?_))
  refine za (hm x cv a b) ?_;intro v q r
  exact (z0 v q (r.mono T))
 ·intro x cv a b
  refine zg (F.cell x cv a b) ?_;intro ad v q r t
  exact (zj ad v q (hcc x ad q _ r) (t.mono T))
 ·intro x a hx
  obtain ⟨nn,v₀,q⟩:=F.alive x a hx
  refine za (q) ?_;intro o e d
  exact ⟨(K a o e nn (hc x a hx)).2,v₀,hcc x a hx _ (z0 o e d)⟩
 ·intro a ha
  refine zh (F.ownok a ha) ?_;intro nn b q195;refine za (q195) ?_;intro o e d
  exact ⟨(K a o e nn (ho a ha)).2,b,(z0 o (hk a ha o e) d)⟩
theorem xo {h h':Heap} {a:Addr} {items:Array Value} (P:h.PlainList a items) (e:∀ o,h.get? a=some o->h'.get? a=some o):h'.PlainList a items:=yl (P) fun n ho=>⟨n,e _ ho⟩
theorem CInv.moved {σs:Sto} {ss s s':Shared} {its:List Addr} (X:CInv c k ys ρ' σ s) (M:Moved its s s') (T:zv s.heap s'.heap) (ho:∀ a∈its,ItOff c k σs ss a/\σ a=none):CInv c k ys ρ' σ s':=by
 refine ⟨X.sg.moved M T (fun a ha=>⟨(ho a ha).2,(ho a ha).1.off.base⟩),X.fo.moved T M.2 (fun a ha hb=>(ho a hb).1.off.own ha) (fun x a hx hb=>(ho a hb).1.off.cell x hx),
  X.fi.moved T M.2 (fun a ha hb=>(ho a hb).1.C (by simpa using ha)) (fun x a hx hb=>(ho a hb).1.cell x hx),fun b o e nb hb=>?_,?_,X.dn⟩
 ·obtain ⟨e1,n1⟩:=X.kp b o e nb hb
  exact ⟨M.2 b o e1 (fun z=>hb ((ho b z).1.off.new o e nb)),n1⟩
 ·refine za (X.acc) ?_;intro items P V
  exact (z0 items (xo P fun o e=>M.2 _ o e fun z=>(ho _ z).1.D rfl) (V.mono T))
theorem CInv.went {σ':Sto} {s s':Shared} {ρ'':Loc} (KO:COff c k) (X:CInv c k ys ρ' σ s) (G':SG c σ' s') (F':FR c k.cenv [k.C] ρ'' σ' s'.heap) (K:Keep σ [k.C] s.heap s'.heap σ'):CInv c k ys ρ'' σ' s':=by
 have T:=X.sg.stayF X.fi K
 refine ⟨G',X.fo.stepK T K (fun a ha hb=>KO.C.own (by rw [List.mem_singleton] at hb;exact hb ▸ ha)) (fun x a hx hb=>KO.C.cell x (by rw [List.mem_singleton] at hb;exact hb ▸ hx)),F',fun b o e nb hb=>?_,?_,?_⟩
 ·obtain ⟨e1,n1⟩:=X.kp b o e nb hb
  exact K b o e1 n1 (fun z=>hb (by rw [List.mem_singleton] at z;subst z;exact KO.C.new o e nb))
 ·refine za (X.acc) ?_;intro items q196 V;obtain ⟨m,P⟩:=q196
  exact (z0 items (⟨m,(K _ _ P X.dn (by simpa using KO.ne)).1⟩) (V.mono T))
 ·refine za (X.acc) ?_;intro items q197 V;obtain ⟨m,P⟩:=q197
  exact (K _ _ P X.dn (by simpa using KO.ne)).2
noncomputable def WC (c:Cx) (n:Nat) (k:CC) (t:Sem Unit) (Q:List CV->Loc->Sto->Prop) (ys:List CV) (ρ':Loc) (σ:Sto):Prop :=
 ∀ A s,Room n A->CInv c k ys ρ' σ s->wpAny (model c.prog c.w) A t (fun _ s'=>∃ ys' ρ'' σ',CInv c k ys' ρ'' σ' s'/\Keep σ [k.C,k.D] s.heap s'.heap σ'/\Q ys' ρ'' σ') Ef s
noncomputable def WK (c:Cx) (n:Nat) (k:CC) (act:Sem Fin->Sem Fin) (Q:List CV->Loc->Sto->Prop) (ys:List CV) (ρ':Loc) (σ:Sto):Prop :=
 ∀ A s (t:Sem Fin) (P:Fin->Shared->Prop) (E:Value->Shared->Prop),Room n A->CInv c k ys ρ' σ s ->
  (∀ s' ys' ρ'' σ',CInv c k ys' ρ'' σ' s'->Keep σ [k.C,k.D] s.heap s'.heap σ'->Q ys' ρ'' σ'->wpAny (model c.prog c.w) A t P E s')->wpAny (model c.prog c.w) A (act t) P E s
theorem WC.toK {t:Sem Unit} {Q:List CV->Loc->Sto->Prop} (h:WC c n k t Q ys ρ' σ):WK c n k (fun r=>t >>= fun _=>r) Q ys ρ' σ :=
 fun A s r P E hR X hk=>wpAny_bind (wpAny_mono (h A s hR X) (fun _ s' q198=>ym q198 fun ys' ρ'' σ' X' K' q=>hk s' ys' ρ'' σ' X' K' q) fun _ _ x=>x.elim)
theorem nP (KO:COff c k) {elt:Expr} {Q:List CV->Loc->Sto->Prop} (h:WE c n k.cenv [k.C] elt (fun v σ'=>Q (ys++[v]) ρ' σ') ρ' σ) (hl:ys.length<100000) :
  WC c n k (do let _ ← call (.builtin "list.append") [.ref k.D,← eval elt k.cenv]) Q ys ρ' σ :=
 fun A s hR X=>by
  refine wpAny_bind (h.on0 hR X.sg X.fi (fun v s₁ g σ₁ r G1 F₁ K1 q=>?_))
  have X1:=X.went KO G1 F₁ K1
  refine za (X1.acc) ?_;intro items P V
  have esz:items.size=ys.length:=by have:=V.length;rw [← this];simp
  have hT:rU s₁.heap k.D:=fun its q199=>yl q199 fun m e=>by obtain ⟨m',P'⟩:=P;rw [e] at P';exact absurd P' (by simp)
  refine wpAny_bind (wpAny_list_append_plain P (fun h' P' hs=>?_) (by rw [esz,sizeLine_eq];exact o19 _ hl))
  have T:zv s₁.heap h':=fun b its q200=>yl q200 fun m e=>⟨m,(hs.2 b (by rintro rfl;exact hT its ⟨m,e⟩)).trans e⟩
  have M:∀ b o,s₁.heap.get? b=some o->b∉[k.D]->h'.get? b=some o:=fun b o e nb=>(hs.2 b (by simpa using nb)).trans e
  refine wpAny_pure (yn (ys++[g]) ρ' σ₁ (⟨X1.sg.ofOwn (t:=s₁.toks) (own:=[k.D]) (fun a ha=>by rw [List.mem_singleton] at ha;subst ha;exact ⟨X1.dn,KO.D.base⟩) T M,
   X1.fo.moved T M (fun a ha hb=>KO.D.own (by rw [List.mem_singleton] at hb;exact hb ▸ ha)) (fun x a hx hb=>KO.D.cell x (by rw [List.mem_singleton] at hb;exact hb ▸ hx)),
   X1.fi.moved T M (fun a ha hb=>KO.ne (by rw [List.mem_singleton] at ha hb;rw [← ha,← hb])) (fun x a hx hb=>KO.cellD x (by rw [List.mem_singleton] at hb;exact hb ▸ hx)),fun b o e nb hb=>?_,(z0 _ P' (?_)),X1.dn⟩) (fun b o e nb hb=>?_) q)
  ·obtain ⟨e1,n1⟩:=X1.kp b o e nb hb
   exact ⟨M b o e1 (fun z=>hb (by rw [List.mem_singleton] at z;subst z;exact KO.D.new o e nb)),n1⟩
  ·rw [Array.toList_push];exact (V.mono T).append (.cons (r.mono T) .nil)
  ·simp only [List.mem_cons,List.not_mem_nil,or_false,not_or] at hb
   obtain ⟨e1,n1⟩:=K1 b o e nb (by simpa using hb.1)
   exact ⟨M b o e1 (by simpa using hb.2),n1⟩
noncomputable def nQ (env:Env) (ifs:List Expr):Sem Bool:=forIn ifs true fun c r=>if r=true then do let ok ← isTrue c env (eval c env);pure (ForInStep.yield ok) else pure (ForInStep.yield r)
noncomputable abbrev WF (c:Cx) (n:Nat) (env:Env) (own:List Addr) (ifs:List Expr) (Q:Bool->Sto->Prop) (ρ:Loc) (σ:Sto):Prop :=
 W c n env own BR (nQ env ifs) (fun v ρ' σ'=>ρ'=ρ/\Q v σ') ρ σ
theorem vt {env:Env} {own:List Addr} {ρ:Loc} {Q:Bool->Sto->Prop} (h:Q true σ):WF c n env own [] Q ρ σ :=
 .mk fun A s hR G F=>wpAny_tests_nil (PE.ofE0 G F (g:=true) rfl ⟨rfl,h⟩)
theorem sV {env:Env} {own:List Addr} {ρ:Loc} {e:Expr} {Q:Bool->Sto->Prop} (h:WB c n env own e Q ρ σ):WF c n env own [e] Q ρ σ :=
 .mk fun A s hR G F=>wpAny_tests_one (h.go A s hR G F)
noncomputable def wX (e:Expr) (d:Nat) (tgt:Expr) (ifs:List Expr) (it acc:Value) (env:Env) (act:Sem Fin->Sem Fin):Prop :=
 ∃ p,compTurn e d it acc env=(standAt p >>= fun _=>pyNext it >>= fun r=>match r with
   | none=>pure (.done .next)
   | some v=>letOwnedTupleGo tgt it v >>= fun _=>assign tgt env v >>= fun _=>nQ env ifs >>= fun ok =>
    (if ok=true then act (again (.compLoop e d it acc env)) else again (.compLoop e d it acc env)))
theorem nR (KO:COff c k) {elt:Expr} {gens:List Comprehension} {scope:Scope} {pos:Pos} {d:Nat} {tgt:Expr} {ifs:List Expr} {it:Value} {its:List Addr} {src:Sto->Prop} {I:List CV->Heap->Prop} {act:Sem Fin->Sem Fin}
  (It:Iter c tgt it its src I) (heq:wX (.ListComp elt gens scope pos) d tgt ifs it (.ref k.D) k.cenv act)
  {Q:List CV->Loc->Sto->Prop} (J:List CV->List CV->Loc->Sto->Prop)
  (step:∀ xs ys ρ' σ',J xs ys ρ' σ'->src σ'/\match xs with
   | []=>Q ys ρ' σ'
   | x::r=>WA c n k.cenv [k.C] tgt x (fun ρ2 σ₂=>WF c n k.cenv [k.C] ifs (fun b σ₃=>if b=true then WK c n k act (fun ys' ρ4 σ₄=>J r ys' ρ4 σ₄) ys ρ2 σ₃ else J r ys ρ2 σ₃) ρ2 σ₂) ρ' σ')
  {A:Around} {s ss:Shared} {σs:Sto} {xs:List CV} (hR:Room n A) (X:CInv c k ys ρ' σ s) (hI:I xs s.heap) (hJ:J xs ys ρ' σ) (K:Keep σs [k.C,k.D] ss.heap s.heap σ) (ho:∀ a∈its,ItOff c k σs ss a/\σ a=none) :
  codeAny (model c.prog c.w) A (.compLoop (.ListComp elt gens scope pos) d it (.ref k.D) k.cenv) (fun r s'=>r=.ok .next/\∃ ys' ρ'' σ',CInv c k ys' ρ'' σ' s'/\Keep σs [k.C,k.D] ss.heap s'.heap σ'/\Q ys' ρ'' σ') s:=by
 refine codeAny_loop rfl (fun kk s'=>∃ xs ys ρ' σ',kk=xs.length+1/\J xs ys ρ' σ'/\I xs s'.heap/\CInv c k ys ρ' σ' s'/\Keep σs [k.C,k.D] ss.heap s'.heap σ'/\(∀ a∈its,ItOff c k σs ss a/\σ' a=none)) (fun kk s' hI'=>?_) (xs.length+1) (vZ xs ys ρ' σ rfl hJ hI X K ho)
 refine rS (hI') ?_;intro xs ys ρ1 σ₁ q201 hJ hI X K ho;obtain rfl:=q201
 obtain ⟨p,heq⟩:=heq
 show wpAny _ A ((compTurn (.ListComp elt gens scope pos) d it (.ref k.D) k.cenv).onRaise (fun x=>do noteFrame x k.cenv;theTreesLotGoes x)) _ _ s'
 refine wpAny_noted ?_
 rw [heq]
 obtain ⟨hsrc,hst⟩:=step xs ys ρ1 σ₁ hJ
 refine wpAny_bind (wpAny_standAt (wpAny_bind (wpAny_mono (It.next A s' σ₁ xs hR.handled X.sg hsrc hI) (fun r s₁ h₁=>?_) fun _ _ x=>x.elim)))
 have kmv:∀ {s₂:Shared},Moved its s' s₂->Keep σs [k.C,k.D] ss.heap s₂.heap σ₁:=fun M b o e nb hb=>by
  obtain ⟨e1,n1⟩:=K b o e nb hb
  exact ⟨M.2 b o e1 (fun z=>hb ((ho b z).1.new o e nb)),n1⟩
 cases r with
 | none =>
  obtain ⟨rfl,M⟩:=h₁
  exact wpAny_pure ⟨rfl,(yn ys ρ1 σ₁ (X.moved M (M.tup (It.raw _ _ hI)) ho) (kmv M) hst)⟩
 | some v =>
  refine wpAny_bind (wpAny_mono h₁ (fun _ s₂ h₂=>?_) fun _ _ x=>x.elim)
  refine zM (h₂) ?_;intro x r q203 rv hI2 M;obtain rfl:=q203
  have X2:=X.moved M (M.tup (It.raw _ _ hI)) ho
  have K2:=kmv M
  refine wpAny_bind (wgo (hst.go A s₂ v hR X2.sg X2.fi rv) (fun _ s₃ _ ρ3 σ₃ _ G3 F3 K3 h₃=>?_))
  have X3:=X2.went KO G3 F3 K3
  have keepIt:∀ {σa σb:Sto} {sa sb:Shared} {own':List Addr},SG c σa sa->zv sa.heap sb.heap->Keep σa own' sa.heap sb.heap σb->(∀ a∈own',a=k.C∨a=k.D)->I r sa.heap->(∀ a∈its,σa a=none)->I r sb.heap/\∀ a∈its,σb a=none :=
   fun Ga T Kk hown hIa hn=>⟨It.keep _ _ _ hIa (fun a ha o e=>(Kk a o e (hn a ha) (fun z=>(hown a z).elim (ho a ha).1.C (ho a ha).1.D)).1) T,fun a ha=>by
    refine za (It.raw _ _ hIa a ha) ?_;intro o e _
    exact (Kk a o e (hn a ha) (fun z=>(hown a z).elim (ho a ha).1.C (ho a ha).1.D)).2⟩
  obtain ⟨hI3,hn3⟩:=keepIt X2.sg (X2.sg.stayF X2.fi K3) K3 (by simp) hI2 (fun a ha=>(ho a ha).2)
  refine wpAny_bind (h₃.on0 hR G3 F3 (fun ok s₄ b σ₄ rb G4 F4 K4 h₄=>?_))
  unfold BR at rb;subst rb
  have X4:=X3.went KO G4 F4 K4
  obtain ⟨hI4,hn4⟩:=keepIt X3.sg (X3.sg.stayF X3.fi K4) K4 (by simp) hI3 hn3
  have K4':Keep σs [k.C,k.D] ss.heap s₄.heap σ₄:=(K2.trans (K3.own (by simp))).trans (K4.own (by simp))
  cases ok with
  | false =>
   simp only [Bool.false_eq_true,if_false] at h₄ ⊢
   exact wpAny_pure ⟨rfl,(z0 (r.length+1) (by simp) (vZ r ys ρ3 σ₄ rfl h₄ hI4 X4 K4' (fun a ha=>⟨(ho a ha).1,hn4 a ha⟩)))⟩
  | true =>
   simp only [if_true] at h₄ ⊢
   refine h₄ A s₄ _ _ _ hR X4 (fun s₅ ys' ρ5 σ₅ X5 K5 h₅=>?_)
   have T5:zv s₄.heap s₅.heap:=by
    intro b items z1;obtain ⟨m,e⟩:=z1
    refine ⟨m,(K5 b _ e (X4.sg.tup ⟨m,e⟩) (fun z=>?_)).1⟩
    simp only [List.mem_cons,List.not_mem_nil,or_false] at z
    rcases z with rfl | rfl
    ·refine zh (X4.fi.ownok k.C (by simp)) ?_;intro _ _ q204;refine za (q204) ?_;intro o e' hn
     rw [e] at e';cases e';exact hn _ _ rfl
    ·refine za (X4.acc) ?_;intro its q205 _;obtain ⟨m',P⟩:=q205
     rw [e] at P;exact absurd P (by simp)
   obtain ⟨hI5,hn5⟩:=keepIt X4.sg T5 K5 (by simp) hI4 hn4
   exact wpAny_pure ⟨rfl,(z0 (r.length+1) (by simp) (vZ r ys' ρ5 σ₅ rfl h₅ hI5 X5 (K4'.trans K5) (fun a ha=>⟨(ho a ha).1,hn5 a ha⟩)))⟩
end

section
variable {c:Cx} {n:Nat} {ρ:Loc} {σ:Sto}
theorem kA {k:CC} {ys:List CV} {ρ':Loc} (KO:COff c k) {elt:Expr} {gens:List Comprehension} {scope:Scope} {pos p:Pos} {iter' tgt':Expr} {ifs':List Expr} {act act':Sem Fin->Sem Fin} {Q:List CV->Loc->Sto->Prop}
  (hact:∀ t,act t=(eval iter' k.cenv >>= fun x=>standAt p >>= fun _=>foldedSetIterable iter' k.cenv x >>= fun x=>holding [x] (pyIter x) >>= fun it'=>runOwn (.compStart (.ListComp elt gens scope pos) 1 it' (.ref k.D) k.cenv) k.cenv >>= fun _=>t))
  (hs:∀ x,foldedSetIterable iter' k.cenv x=pure x) (hna:((gens)[1]?).elim false (·.is_async != 0)=false)
  (heq:∀ it,wX (.ListComp elt gens scope pos) 1 tgt' ifs' it (.ref k.D) k.cenv act')
  (h:WIt c n k.cenv [k.C] tgt' iter' (fun xs src σ₁=>∃ J:List CV->List CV->Loc->Sto->Prop,J xs ys ρ' σ₁/\∀ xs ys ρ' σ',J xs ys ρ' σ'->src σ'/\match xs with
   | []=>Q ys ρ' σ'
   | x::r=>WA c n k.cenv [k.C] tgt' x (fun ρ2 σ₂=>WF c n k.cenv [k.C] ifs' (fun b σ₃=>if b=true then WK c n k act' (fun ys' ρ4 σ₄=>J r ys' ρ4 σ₄) ys ρ2 σ₃ else J r ys ρ2 σ₃) ρ2 σ₂) ρ' σ') ρ' σ) :
  WK c n k act Q ys ρ' σ:=by
 intro A s t P E hR X hk
 rw [hact]
 refine wpAny_bind (wpAny_mono (h.go A s hR X.sg X.fi) (fun x s₁ h₁=>wpAny_bind (wpAny_standAt (wpAny_bind (wpAny_of_eq (hs x) (wpAny_bind (wpAny_holding (wpAny_mono h₁ (fun it s₂ h₂=>?_) fun _ _ x=>x.elim))))))) fun _ _ x=>x.elim)
 refine u0 (h₂) ?_;intro xs src σ₂ its I It hI hsrc hits G2 F₂ K2 q206;refine za (q206) ?_;intro J hJ step
 have X2:=X.went KO G2 F₂ K2
 have hoff:∀ a∈its,ItOff c k σ s a/\σ₂ a=none:=fun a ha=>by
  obtain ⟨O,hn⟩:=hits a ha
  have hC:a≠k.C:=fun z=>O.own (by simp [z])
  have key:∀ o,s.heap.get? a=some o->σ a=none->False:=fun o e nn=>O.own (O.new o e nn)
  refine ⟨⟨⟨fun o e nn=>?_,fun hb=>?_,fun x e=>?_,O.base⟩,hC,fun z=>?_,O.cell,fun o e nn=>(key o e nn).elim⟩,hn⟩
  ·by_cases hb:a∈k.own
   ·exact hb
   ·obtain ⟨e1,n1⟩:=X.kp a o e nn hb
    exact (key o e1 n1).elim
  ·refine zh (X.fo.ownok a hb) ?_;intro nn _ q207;refine za (q207) ?_;intro o e _
   exact key o e nn
  ·obtain ⟨nn,q208⟩:=X.fo.alive x a e;refine y6 (q208) ?_;intro _ o e' _
   exact key o e' nn
  ·refine za (X.acc) ?_;intro items q209 _;obtain ⟨m,P'⟩:=q209
   exact key _ (z ▸ P') (z ▸ X.dn)
 have loop:∀ (s₃:Shared),s₃=s₂->codeAny (model c.prog c.w) A (.compLoop (.ListComp elt gens scope pos) 1 it (.ref k.D) k.cenv) (fun r s'=>match r with
   | .ok f=>wpAny (model c.prog c.w) A t P E s'
   | .error e=>cameBackBy (model c.prog c.w) A k.cenv E e s') s₃:=by
  rintro s₃ rfl
  refine codeAny_mono (nR KO It (heq it) J step hR X2 hI hJ (K2.own (by simp)) hoff) fun r s' hr=>?_
  obtain ⟨q210,q211⟩:=hr;obtain rfl:=q210;refine ym (q211) ?_;intro ys' ρ'' σ' X' K' q
  exact hk s' ys' ρ'' σ' X' K' q
 exact wpAny_bind (wpAny_runOwn (yB hna (loop _ rfl) fun E'=>It.self A s₂ xs _ _ hI (loop _ rfl)))
theorem uf {env:Env} {own:List Addr} {elt:Expr} {gens:List Comprehension} {scope:Scope} {pos:Pos} {cl:List (Str × Addr)} {tgt:Expr} {ifs:List Expr} {act:Addr->Addr->Sem Fin->Sem Fin} {RR:Value->Addr->Result->Shared->Prop}
  {A:Around} {s s₂:Shared} {σ₂:Sto} {xs:List CV} {it:Value} {its:List Addr} {src:Sto->Prop} {I:List CV->Heap->Prop} {Fin':List CV->Sto->Prop} (hR:Room n A) (F:FR c env own ρ σ s.heap)
  (G2:SG c σ₂ s₂) (F₂:FR c env own ρ σ₂ s₂.heap) (K2:Keep σ own s.heap s₂.heap σ₂) (It:Iter c tgt it its src I) (hI:I xs s₂.heap) (hits:∀ a∈its,Off c env own σ s a/\σ₂ a=none)
  (hna:((gens)[0]?).elim false (·.is_async != 0)=false)
  (hcell:∀ y∈scope.names,y.2≠.cell) (hkind:scope.kind=.function) (fv:Loc) (hfv:∀ e∈fv,ρ.lookup e.1=some e.2/\env.kindOf e.1≠some .local/\(relabel scope env).names.lookup e.1≠some .local/\cl.lookup e.1=env.cells.lookup e.1)
  (hcl:∀ e∈cl,env.cells.lookup e.1=some e.2)
  (heq:∀ C D,wX (.ListComp elt gens scope pos) 0 tgt ifs it (.ref D) (compEnvC scope cl C env) (act C D))
  (J:List CV->List CV->Loc->Sto->Prop) (hJ:J xs [] fv σ₂)
  (step:∀ k:CC,k.env=env->k.own=own->k.cenv=compEnvC scope cl k.C env->COff c k->∀ xs ys ρ' σ',J xs ys ρ' σ'->src σ'/\match xs with
   | []=>Fin' ys σ'
   | x::r=>WA c n k.cenv [k.C] tgt x (fun ρ2 σ₂=>WF c n k.cenv [k.C] ifs (fun b σ₃=>if b=true then WK c n k (act k.C k.D) (fun ys' ρ4 σ₄=>J r ys' ρ4 σ₄) ys ρ2 σ₃ else J r ys ρ2 σ₃) ρ2 σ₂) ρ' σ')
  (fin:∀ C D ys σ' s' items,SG c σ' s'->FR c env own ρ σ' s'.heap->Keep σ own s.heap s'.heap σ'->s'.heap.PlainList D items->VRs s'.heap ys items.toList->(∃ m,s'.heap.Ns C m)->Off c env own σ s C->Off c env own σ s D->D≠C->(D==sysModules)=false->σ' C=none->σ' D=none->Fin' ys σ'->RR (.ref D) C (.ok .next) s') :
  wpAny (model c.prog c.w) A (newList []) (fun acc s₃=>wpAny (model c.prog c.w) A (newFunctionEnv scope env.globals cl [] env.qual none .none (some env)) (fun cenv s₄ =>
   codeAny (model c.prog c.w) A (.compStart (.ListComp elt gens scope pos) 0 it acc { cenv with scope:=relabel scope env }) (RR acc cenv.locals) s₄) Ef s₃) Ef s₂:=by
 refine wpAny_newObj_type (wpAny_newFunctionEnv hcell (by intro y hy;simp at hy) (fun h₁ hns1 hsb1=>?_) hkind)
 dsimp only at hns1 hsb1 ⊢
 generalize hH2:s₂.heap.push { cls:=.type "list",dict:=none,data:=.seq ([]:List Value).toArray }=H2 at hns1 hsb1 ⊢
 have hC:H2.objs.size=s₂.heap.objs.size+1:=by rw [← hH2,Heap.size_push]
 have hDC:s₂.heap.objs.size≠H2.objs.size:=by rw [hC];exact Nat.ne_of_lt (Nat.lt_succ_self _)
 have below:∀ b,b<s₂.heap.objs.size->b≠H2.objs.size/\b≠s₂.heap.objs.size:=fun b hb=>⟨by rw [hC];exact Nat.ne_of_lt (Nat.lt_succ_of_lt hb),Nat.ne_of_lt hb⟩
 have old:∀ b o,s₂.heap.get? b=some o->h₁.get? b=some o:=fun b o e=>hsb1.extBut b o (below b (Heap.lt_size e)).1 (Heap.get?_push_of_some _ (hH2 ▸ Heap.get?_push_of_some _ e))
 have hacc:h₁.PlainList s₂.heap.objs.size #[]:=⟨_,hsb1.extBut _ _ hDC (Heap.get?_push_of_some _ (hH2 ▸ Heap.get?_push_size _ rfl))⟩
 refine zh (G2.grow (h':=h₁) (t:=s₂.toks+([]:List (Str × Value)).length) old) ?_;intro G3 K3 T3
 have hCle:s₂.heap.objs.size<=H2.objs.size:=by rw [hC];exact Nat.le_succ _
 let k:CC:=⟨env,own,ρ,compEnvC scope cl H2.objs.size env,H2.objs.size,s₂.heap.objs.size,σ,s⟩
 have hclk:∀ x a,cl.lookup x=some a->env.cells.lookup x=some a:=fun x a e=>hcl (x,a) (PySem.mem_of_lookup e)
 have OD:Off c env own σ s s₂.heap.objs.size:=.mk' G2 F₂ K2 (Nat.le_refl _)
 have OC:Off c env own σ s H2.objs.size:=.mk' G2 F₂ K2 hCle
 have KO:COff c k:=⟨OC,OD,hDC,fun x e=>OD.cell x (hclk x _ e)⟩
 have F3:=F₂.step T3 K3
 have X:CInv c k [] fv σ₂ { s₂ with heap:=h₁,toks:=s₂.toks+([]:List (Str × Value)).length }:=by
  refine ⟨G3,F3,⟨hkind,F.glob,F.built,(z0 _ hns1 (fun x cv a b=>?_)),fun x cv a b=>?_,fun x a e=>F3.alive x a (hclk x a e),fun x y a e f=>F3.apart x y a (hclk x a e) (hclk y a f),List.mem_singleton.mpr rfl,fun a ha=>?_⟩,K2.trans (K3.own (by simp)),(z0 (#[]) hacc VRs.nil),G2.top (Nat.le_refl _)⟩
  ·exact absurd b (hfv (x,cv) (PySem.mem_of_lookup a)).2.2.1
  ·refine yL (hfv (x,cv) (PySem.mem_of_lookup a)) ?_;intro e1 e2 e3 e4
   refine zg (F3.cell x cv e1 e2) ?_;intro ad v q r t
   exact (zj ad v ((show cl.lookup x=some ad from e4.trans q)) r t)
  ·rw [List.mem_singleton] at ha;subst ha
   refine ym (hns1) ?_;intro o es ep hoo hd _
   exact ⟨G2.top hCle,G2.topB hCle,(z0 o hoo (fun its k z=>by rw [hd] at z;cases z))⟩
 have hI3:I xs h₁:=It.keep _ _ _ hI (fun a ha o e=>old a o e) T3
 have hoff:∀ a∈its,ItOff c k σ₂ { s₂ with heap:={} } a/\σ₂ a=none:=fun a ha=>by
  obtain ⟨O,hn⟩:=hits a ha
  refine za (It.raw _ _ hI a ha) ?_;intro o e _
  have hb:=below a (Heap.lt_size e)
  exact ⟨⟨O,hb.1,hb.2,fun x q=>O.cell x (hclk x a q),fun o q=>by simp [Heap.get?] at q⟩,hn⟩
 have loop:∀ s₃:Shared,s₃={ s₂ with heap:=h₁,toks:=s₂.toks+([]:List (Str × Value)).length } ->
   codeAny (model c.prog c.w) A (.compLoop (.ListComp elt gens scope pos) 0 it (.ref s₂.heap.objs.size) (compEnvC scope cl H2.objs.size env)) (RR (.ref s₂.heap.objs.size) H2.objs.size) s₃:=by
  rintro s₃ rfl
  refine codeAny_mono (nR (k:=k) (Q:=fun ys _ σ'=>Fin' ys σ') KO It (heq H2.objs.size s₂.heap.objs.size) J (step k rfl rfl rfl KO) hR X hI3 hJ (σs:=σ₂) (ss:={ s₂ with heap:={} }) (fun b o e=>by simp [Heap.get?] at e) hoff) fun r s' hr=>?_
  obtain ⟨q212,q213⟩:=hr;obtain rfl:=q212;refine ym (q213) ?_;intro ys' ρ'' σ' X' _ q
  refine za (X'.acc) ?_;intro items P V
  refine za (X'.fi.ns) ?_;intro m hm _
  exact fin _ _ ys' σ' s' items X'.sg X'.fo X'.kp P V ⟨m,hm⟩ OC OD hDC (G2.high (Nat.le_refl _)) (X'.fi.ownok _ (List.mem_singleton.mpr rfl)).1 X'.dn q
 exact yB hna (loop _ rfl) fun E'=>It.self A _ xs _ _ hI3 (loop _ rfl)
end

section
variable {c:Cx} {n:Nat} {env:Env} {own:List Addr} {ρ:Loc} {σ:Sto}
theorem adopt {s s₀:Shared} {σ0:Sto} {D:Addr} {co:CO} (G:SG c σ s) (F:FR c env own ρ σ s.heap) (K:Keep σ0 own s₀.heap s.heap σ) (O:Off c env own σ0 s₀ D) (hm:(D==sysModules)=false) (R:Rep c s.heap D co) :
  SG c (upd σ D co) s/\FR c env own ρ (upd σ D co) s.heap/\Keep σ0 own s₀.heap s.heap (upd σ D co):=by
 refine ⟨⟨G.base,fun a co' e=>?_,fun a co' e=>?_,fun a co' e=>?_,G.gens,G.os⟩,⟨F.kind,F.glob,F.built,F.ns,F.cell,fun x a e=>?_,F.apart,F.lown,fun a ha=>?_⟩,fun b o e nb hb=>?_⟩
 ·by_cases q:a=D
  ·subst q;rw [zb] at e;cases e;exact R
  ·rw [zB q] at e;exact G.rep a co' e
 ·by_cases q:a=D
  ·subst q;exact O.base
  ·rw [zB q] at e;exact G.fresh a co' e
 ·by_cases q:a=D
  ·subst q;exact hm
  ·rw [zB q] at e;exact G.low a co' e
 ·obtain ⟨nn,r⟩:=F.alive x a e
  have q:a≠D:=by rintro rfl;exact O.cell x e
  exact ⟨by rw [zB q];exact nn,r⟩
 ·obtain ⟨nn,r⟩:=F.ownok a ha
  have q:a≠D:=by rintro rfl;exact O.own ha
  exact ⟨by rw [zB q];exact nn,r⟩
 ·obtain ⟨e1,n1⟩:=K b o e nb hb
  have q:b≠D:=by rintro rfl;exact hb (O.new o e nb)
  exact ⟨e1,by rw [zB q];exact n1⟩
theorem nS {s s₀:Shared} {h':Heap} {σ0:Sto} {C:Addr} {m:Str->Option Value} (G:SG c σ s) (F:FR c env own ρ σ s.heap) (K:Keep σ0 own s₀.heap s.heap σ) (O:Off c env own σ0 s₀ C) (hn:σ C=none) (hm:s.heap.Ns C m) (hs:Heap.SameBut C s.heap h') :
  SG c σ { s with heap:=h' }/\FR c env own ρ σ h'/\Keep σ0 own s₀.heap h' σ/\zv s.heap h':=by
 refine ym (hm) ?_;intro o es ep ho hd _
 have T:zv s.heap h':=yy hs (z0 o ho (fun its k z=>by rw [hd] at z;cases z))
 have M:∀ b o,s.heap.get? b=some o->b∉[C]->h'.get? b=some o:=fun b o e nb=>(hs.2 b (by simpa using nb)).trans e
 refine ⟨G.ofOwn (t:=s.toks) (own:=[C]) (fun a ha=>by rw [List.mem_singleton] at ha;subst ha;exact ⟨hn,O.base⟩) T M,
  F.moved T M (fun a ha hb=>O.own (by rw [List.mem_singleton] at hb;exact hb ▸ ha)) (fun x a hx hb=>O.cell x (by rw [List.mem_singleton] at hb;exact hb ▸ hx)),fun b o e nb hb=>?_,T⟩
 obtain ⟨e1,n1⟩:=K b o e nb hb
 exact ⟨M b o e1 (fun z=>hb (by rw [List.mem_singleton] at z;subst z;exact O.new o e nb)),n1⟩
structure CompOk (env:Env) (ρ:Loc) (scope:Scope) (cl:List (Str × Addr)) (fv:Loc):Prop where
 clos:closureFor scope env=pure cl
 cell:∀ y∈scope.names,y.2≠.cell
 kind:scope.kind=.function
 names:∀ x∈scope.names,x.2=.local->scope.names.lookup x.1=some .local
 fv:∀ e∈fv,ρ.lookup e.1=some e.2/\env.kindOf e.1≠some .local/\(relabel scope env).names.lookup e.1≠some .local/\cl.lookup e.1=env.cells.lookup e.1
 cl:∀ e∈cl,env.cells.lookup e.1=some e.2
theorem kB {elt tgt iter:Expr} {ifs:List Expr} {rest:List Comprehension} {scope:Scope} {pos:Pos} {cl:List (Str × Addr)} {fv:Loc} {act:Addr->Addr->Sem Fin->Sem Fin} {Q:CV->Sto->Prop}
  (ok:CompOk env ρ scope cl fv) (hs:∀ x,foldedSetIterable iter env x=pure x)
  (heq:∀ C D it,wX (.ListComp elt (⟨tgt,iter,ifs,0⟩::rest) scope pos) 0 tgt ifs it (.ref D) (compEnvC scope cl C env) (act C D))
  (h:WIt c n env own tgt iter (fun xs src σ₁=>∃ J:List CV->List CV->Loc->Sto->Prop,J xs [] fv σ₁/\∀ k:CC,k.env=env->k.own=own->k.cenv=compEnvC scope cl k.C env->COff c k->∀ xs ys ρ' σ',J xs ys ρ' σ'->src σ'/\match xs with
   | []=>ys.length<=100000/\∀ d,σ' d=none->Q (.ref d) (upd σ' d (.list ys))
   | x::r=>WA c n k.cenv [k.C] tgt x (fun ρ2 σ₂=>WF c n k.cenv [k.C] ifs (fun b σ₃=>if b=true then WK c n k (act k.C k.D) (fun ys' ρ4 σ₄=>J r ys' ρ4 σ₄) ys ρ2 σ₃ else J r ys ρ2 σ₃) ρ2 σ₂) ρ' σ') ρ σ) :
  WE c n env own (.ListComp elt (⟨tgt,iter,ifs,0⟩::rest) scope pos) Q ρ σ :=
 .mk fun A s hR G F=>by
  show wpAny _ A (eval (.ListComp elt (⟨tgt,iter,ifs,0⟩::rest) scope pos) env) _ _ s
  rw [eval_ListComp]
  refine wpAny_comprehension_free (use:=none) rfl hs ok.clos ok.kind ok.names (wpAny_mono (h.go A s hR G F) (fun xv s₁ h₁=>wpAny_mono h₁ (fun it s₂ h₂=>?_) fun _ _ e=>e) fun _ _ e=>e)
  refine u0 (h₂) ?_;intro xs src σ₂ its I It hI hsrc hits G2 F₂ K2 q214;refine za (q214) ?_;intro J hJ step
  refine uf (RR:=fun acc C=>compPost (model c.prog c.w) A Ef none _ acc C) (Fin':=fun ys σ'=>ys.length<=100000/\∀ d,σ' d=none->Q (.ref d) (upd σ' d (.list ys))) hR F G2 F₂ K2 It hI hits rfl ok.cell ok.kind fv ok.fv ok.cl (fun C D=>heq C D it) J hJ step ?_
  intro C D ys σ' s' items G' F' K' P V z1 OC OD hDC hsm hC hD z2;obtain ⟨m,hm⟩:=z1;obtain ⟨hl,q⟩:=z2
  refine (z0 m hm (fun h' hs'=>?_))
  refine zh (adopt (co:=.list ys) G' F' K' OD hsm (zt items P V hl)) ?_;intro G4 F4 K4
  refine yL (nS G4 F4 K4 OC (by rw [zB (Ne.symm hDC)];exact hC) hm hs') ?_;intro G5 F5 K5 T5
  exact ⟨.ref D,ρ,_,wk,G5,F5,K5,rfl,q D hD⟩
theorem xS {elt tgt iter:Expr} {y:Str} {py spos:Pos} {ifs:List Expr} {rest:List Comprehension} {scope:Scope} {pos:Pos} {cl:List (Str × Addr)} {fv:Loc} {act:Addr->Addr->Sem Fin->Sem Fin} {Q:CF->Loc->Sto->Prop}
  (hsw:swapsWith (.ListComp elt (⟨tgt,iter,ifs,0⟩::rest) scope pos) (some (.Name y py)) spos.line env=pure true)
  (ok:CompOk env ρ scope cl fv) (hs:∀ x,foldedSetIterable iter env x=pure x)
  (heq:∀ C D it,wX (.ListComp elt (⟨tgt,iter,ifs,0⟩::rest) scope pos) 0 tgt ifs it (.ref D) (compEnvC scope cl C env) (act C D))
  (h:WIt c n env own tgt iter (fun xs src σ₁=>∃ J:List CV->List CV->Loc->Sto->Prop,J xs [] fv σ₁/\∀ k:CC,k.env=env->k.own=own->k.cenv=compEnvC scope cl k.C env->COff c k->∀ xs ys ρ' σ',J xs ys ρ' σ'->src σ'/\match xs with
   | []=>ys.length<=100000/\∀ d,σ' d=none->WA c n env own (.Name y py) (.ref d) (fun ρ2 σ₂=>Q .next ρ2 σ₂) ρ (upd σ' d (.list ys))
   | x::r=>WA c n k.cenv [k.C] tgt x (fun ρ2 σ₂=>WF c n k.cenv [k.C] ifs (fun b σ₃=>if b=true then WK c n k (act k.C k.D) (fun ys' ρ4 σ₄=>J r ys' ρ4 σ₄) ys ρ2 σ₃ else J r ys ρ2 σ₃) ρ2 σ₂) ρ' σ') ρ σ) :
  WS c n env own (.Assign [.Name y py] (.ListComp elt (⟨tgt,iter,ifs,0⟩::rest) scope pos) spos) Q ρ σ :=
 .mk fun A s hR G F=>by
  show wpAny _ A (exec (.Assign [.Name y py] (.ListComp elt (⟨tgt,iter,ifs,0⟩::rest) scope pos) spos) env) _ _ s
  rw [exec_Assign_Name_used _ _ _ _ hsw]
  refine wpAny_bind (wpAny_standAt (wpAny_bind ?_))
  show wpAny _ A (do let _ ← comprehension (.ListComp elt (⟨tgt,iter,ifs,0⟩::rest) scope pos) scope env _ (newList []) false (eval iter env) (some (assign (.Name y py) env))) _ _ s
  refine wpAny_bind (wpAny_mono (wpAny_comprehension_free (use:=some (assign (.Name y py) env)) (Q:=fun _ s'=>PE c env own FlR Q σ s .next s') rfl hs ok.clos ok.kind ok.names
   (wpAny_mono (h.go A s hR G F) (fun xv s₁ h₁=>wpAny_mono h₁ (fun it s₂ h₂=>?_) fun _ _ e=>e) fun _ _ e=>e)) (fun _ s' hq=>wpAny_pure (wpAny_pure hq)) fun _ _ e=>e)
  refine u0 (h₂) ?_;intro xs src σ₂ its I It hI hsrc hits G2 F₂ K2 q215;refine za (q215) ?_;intro J hJ step
  refine uf (RR:=fun acc C=>compPost (model c.prog c.w) A Ef (some (assign (.Name y py) env)) _ acc C) (Fin':=fun ys σ'=>ys.length<=100000/\∀ d,σ' d=none->WA c n env own (.Name y py) (.ref d) (fun ρ2 σ₂=>Q .next ρ2 σ₂) ρ (upd σ' d (.list ys))) hR F G2 F₂ K2 It hI hits rfl ok.cell ok.kind fv ok.fv ok.cl (fun C D=>heq C D it) J hJ step ?_
  intro C D ys σ' s' items G' F' K' P V z3 OC OD hDC hsm hC hD z4;obtain ⟨m,hm⟩:=z3;obtain ⟨hl,q⟩:=z4
  refine zh (adopt (co:=.list ys) G' F' K' OD hsm (zt items P V hl)) ?_;intro G4 F4 K4
  have hC4:upd σ' D (.list ys) C=none:=by rw [zB (Ne.symm hDC)];exact hC
  show wpAny _ A (assign (.Name y py) env (.ref D)) _ _ s'
  refine wgo ((q D hD).go A s' (.ref D) hR G4 F4 wk) (fun _ s'' _ ρ5 σ₅ _ G5 F5 K5 q₅=>?_)
  refine yd (hm) ?_;intro o es ep ho rr
  obtain ⟨e1,n1⟩:=K5 C o ho hC4 OC.own
  refine (z0 m ((xM o es ep e1 rr)) (fun h' hs'=>?_))
  refine yL (nS G5 F5 (K4.trans K5) OC n1 (xM o es ep e1 rr) hs') ?_;intro G6 F6 K6 T6
  exact ⟨.next,ρ5,σ₅,rfl,G6,F6,K6,q₅⟩
noncomputable abbrev wn (elt:Expr) (scope:Scope) (cl:List (Str × Addr)) (env:Env):Addr->Addr->Sem Fin->Sem Fin:=fun C D t=>(do let _ ← call (.builtin "list.append") [.ref D,← eval elt (compEnvC scope cl C env)]) >>= fun _=>t
theorem vw {elt tgt iter:Expr} {ifs:List Expr} {scope:Scope} {pos:Pos} {cl:List (Str × Addr)} (C D:Addr) (it:Value) :
  wX (.ListComp elt [⟨tgt,iter,ifs,0⟩] scope pos) 0 tgt ifs it (.ref D) (compEnvC scope cl C env) (wn elt scope cl env C D):=⟨iter.pos,i8 ..⟩
theorem tU {elt:Expr} {k:CC} {scope:Scope} {cl:List (Str × Addr)} {ys:List CV} {ρ':Loc} {Q:List CV->Loc->Sto->Prop} (KO:COff c k) (hc:k.cenv=compEnvC scope cl k.C k.env) (he:k.env=env)
  (h:WE c n k.cenv [k.C] elt (fun v σ'=>Q (ys++[v]) ρ' σ') ρ' σ) (hl:ys.length<100000):WK c n k (wn elt scope cl env k.C k.D) Q ys ρ' σ:=by
 subst he
 have:=(nP KO h hl).toK
 rw [hc] at this
 exact this
end

section
variable {c:Cx} {n:Nat} {env:Env} {own:List Addr} {ρ:Loc} {σ:Sto}
theorem bit (b:Bool):(if b=true then 1 else 0)<=1:=by cases b <;> decide
theorem Room.make {A:Around} {args:Args} (h:Room (n+1) A):Room n (A.under (.builtin "type.__call__" args)):=by
 have e0:(Code.builtin "type.__call__" args).frames<=1:=Nat.le_of_ble_eq_true (by kernel_rfl)
 have e1:(Code.builtin "type.__call__" args).weight<=3:=Nat.add_le_add (Nat.add_le_add (Nat.add_le_add e0 (bit _)) (bit _)) (Nat.le_refl 0)
 have e2:(Code.builtin "type.__call__" args).cUnits<=10:=by
  exact Nat.le_of_ble_eq_true (by kernel_rfl)
 refine ⟨h.handled,?_,?_⟩
 ·have:=h.depth;show A.depth+_+4*n<900;exact o60 _ _ _ this e1
 ·have:=h.units;show A.units+_+30*n<9000;exact o61 _ _ _ this e2
theorem pQ {C fI:Addr} {args:List CV} {Q:CV->Sto->Prop} (hm:makesIn c.K C=true) (hi:findIn c.K (.ref C) "__init__" = some (some (.ref fI))) (hf:typeIn c.K (.ref fI)=some (.type "function"))
  (h:∀ x dx,σ x=none->σ dx=none->x≠dx->OCd c n (.ref x::args) (.ref fI) (fun v σ'=>v=.none/\Q (.ref x) σ') (upd (upd σ dx (.attrs [])) x (.inst C dx))):OW c (n+1) VR args (zQ (.ref C)) Q σ:=by
 refine ⟨fun A s vals hR G V=>?_⟩
 obtain ⟨hh,g,d,t,os⟩:=s
 have X:=c.X.keeps G.base
 refine zh (G.new (h':=hh.push emptyDict) (a:=hh.objs.size) (co:=.attrs []) (t:=t) (Nat.le_refl _) (zl _ _) (fun T=>(zj ([]) 0 (Heap.get?_push_size _ rfl) (⟨rfl,fun name=>rfl⟩) (Nat.le_refl _)))) ?_;intro G1 K1 T1
 refine zh (G1.new (h':=(hh.push emptyDict).push (instObj C hh.objs.size)) (a:=hh.objs.size+1) (co:=.inst C hh.objs.size) (t:=t) (by rw [Heap.size_push];exact Nat.le_refl _) (zl _ _) (fun T=>by
  show Heap.get? _ _=_
  have:=Heap.get?_push_size (hh.push emptyDict) (o:=instObj C hh.objs.size) rfl
  rwa [Heap.size_push] at this)) ?_;intro G2 K2 T₂
 have hne:hh.objs.size+1≠hh.objs.size:=Nat.succ_ne_self _
 refine wpAny_call (make_core (makes_of X hm) (looks_findIn X hi) (fun self=>bind_fn X self hf) (.inl rfl) ?_)
 refine codeAny_mono (h (hh.objs.size+1) hh.objs.size (G.top (Nat.le_succ _)) (G.top (Nat.le_refl _)) hne _ _ (.ref (hh.objs.size+1)::vals) hR.make G2 (.cons wk ((V.mono T1).mono T₂))) fun r s' hr=>?_
 rcases r with e | (_ | _ | _ | v)
 ·exact hr.elim
 ·exact hr.elim
 ·exact hr.elim
 ·exact hr.elim
 ·obtain ⟨gv,σ',r,G',K',rfl,q⟩:=hr
  obtain rfl:=xQ r
  exact ⟨rfl,.ref (hh.objs.size+1),σ',wk,G',(K1.trans K2).trans K',q⟩
end

section
variable {c:Cx} {n:Nat} {env:Env} {own:List Addr} {ρ:Loc} {σ:Sto}
theorem mP {e:Expr} {op:BoolOp} {pos:Pos} {Q:CV->Sto->Prop} (h:WE c n env own e Q ρ σ):WE c n env own (.BoolOp op [e] pos) Q ρ σ :=
 .mk fun A s hR G F=>BoolOp_one (h.go A s hR G F)
theorem qn {e e':Expr} {es:List Expr} {pos:Pos} {Q:CV->Sto->Prop} (h:WE c n env own e (fun v σ₁=>∃ b,v=.bool b/\if b=true then WE c n env own (.BoolOp .And (e'::es) pos) Q ρ σ₁ else Q (.bool false) σ₁) ρ σ):WE c n env own (.BoolOp .And (e::e'::es) pos) Q ρ σ :=
 .mk fun A s hR G F=>BoolOp_and (h.on0 hR G F (fun v s₁ g σ' r G' F' K q0=>by
  refine za q0 ?_;intro b e2 q
  subst e2
  obtain rfl:=yO r
  refine wpAny_truthy_bool ?_
  cases b with
  | true=>simp only [if_true] at q ⊢;exact wpAny_mono (q.go A s₁ hR G' F') (fun _ _ x=>PE.trans K x) fun _ _ x=>x
  | false=>simp only [Bool.false_eq_true,if_false] at q ⊢;exact ⟨.bool false,ρ,σ',zC,G',F',K,rfl,q⟩))
theorem hO {e e':Expr} {es:List Expr} {pos:Pos} {Q:CV->Sto->Prop} (h:WE c n env own e (fun v σ₁=>∃ b,v=.bool b/\if b=true then Q (.bool true) σ₁ else WE c n env own (.BoolOp .Or (e'::es) pos) Q ρ σ₁) ρ σ):WE c n env own (.BoolOp .Or (e::e'::es) pos) Q ρ σ :=
 .mk fun A s hR G F=>BoolOp_or (h.on0 hR G F (fun v s₁ g σ' r G' F' K q0=>by
  refine za q0 ?_;intro b e2 q
  subst e2
  obtain rfl:=yO r
  refine wpAny_truthy_bool ?_
  cases b with
  | false=>simp only [Bool.false_eq_true,if_false] at q ⊢;exact wpAny_mono (q.go A s₁ hR G' F') (fun _ _ x=>PE.trans K x) fun _ _ x=>x
  | true=>simp only [if_true] at q ⊢;exact ⟨.bool true,ρ,σ',zC,G',F',K,rfl,q⟩))
theorem mQ {l r₁ r₂:Expr} {op1 op2:CmpOp} {pos:Pos} {Q:Bool->Sto->Prop}
  (h:WE c n env own l (fun a σ₁=>WE c n env own r₁ (fun b σ₂=>OW c n VR [a,b] (cmp op1) (fun v σ₃=>∃ t,v=.bool t/\if t=true then WE c n env own r₂ (fun d σ₄=>OW c n VR [b,d] (cmp op2) (fun v σ₅=>∃ t,v=.bool t/\Q t σ₅) σ₄) ρ σ₃ else Q false σ₃) σ₂) ρ σ₁) ρ σ)
  (hm:lastMarks (op1::op2::[]) (r₁::r₂::[])=false):WB c n env own (.Compare l [op1,op2] [r₁,r₂] pos) Q ρ σ :=
 .mk fun A s hR G F=>isTrue_chain (h.on0 hR G F (fun va s₁ a σ₁ ra G1 F₁ K1 h₁=>by
  refine test_link (h₁.on0 hR G1 F₁ (fun vb s₂ b σ₂ rb G2 F₂ K2 h₂=>?_))
  have ra2:=ra.mono (G1.stayF F₁ K2)
  refine jK (W.op h₂ (vals:=[va,vb]) hR G2 F₂ (.cons ra2 (.cons rb .nil))) (fun v s₃ cv σ₃ rv G3 F3 K3 q0=>?_)
  refine za q0 ?_;intro t et h₃
  subst et
  obtain rfl:=yO rv
  refine wpAny_truthy_bool ?_
  have rb3:=rb.mono (G2.stayF F₂ K3)
  cases t with
  | false=>simp only [Bool.false_eq_true,if_false] at h₃ ⊢;exact ⟨false,ρ,σ₃,rfl,G3,F3,(K1.trans K2).trans K3,rfl,h₃⟩
  | true =>
   simp only [if_true] at h₃ ⊢
   refine test_last (h₃.on0 hR G3 F3 (fun vd s₄ d σ₄ rd G4 F4 K4 h₄=>?_))
   have rb4:=rb3.mono (G3.stayF F3 K4)
   refine jK (W.op h₄ (vals:=[vb,vd]) hR G4 F4 (.cons rb4 (.cons rd .nil))) (fun v s₅ cv σ₅ rv G5 F5 K5 q0=>?_)
   refine za q0 ?_;intro t et h₅
   subst et
   obtain rfl:=yO rv
   exact wpAny_truthy_bool ⟨t,ρ,σ₅,rfl,G5,F5,(((K1.trans K2).trans K3).trans K4).trans K5,rfl,h₅⟩)) hm
structure WN (c:Cx) (n:Nat) (env:Env) (own:List Addr) (f:Value->Sem Unit) (v:CV) (Q:Loc->Sto->Prop) (ρ:Loc) (σ:Sto):Prop where
 go:∀ A s w,Room n A->SG c σ s->FR c env own ρ σ s.heap->VR s.heap v w->wpAny (model c.prog c.w) A (f w) (PE c env own UR (fun _ ρ' σ'=>Q ρ' σ') σ s) Ef s
theorem mR {x:Str} {v:CV} {Q:Loc->Sto->Prop} (hk:env.kindOf x=some .local) (h:Q (put ρ x v) σ):WN c n env own (bindName env x) v Q ρ σ :=
 .mk fun A s w _ G F r=>wpAny_bindName (wU G F hk r fun h' G' F' K=>⟨(),_,σ,trivial,G',F',K,h⟩)
noncomputable def WNs (c:Cx) (n:Nat) (env:Env) (own:List Addr):List (Value->Sem Unit)->List CV->(Loc->Sto->Prop)->Loc->Sto->Prop
 | f::fs,v::vs,Q,ρ,σ=>WN c n env own f v (fun ρ1 σ₁=>WNs c n env own fs vs Q ρ1 σ₁) ρ σ
 | _,_,Q,ρ,σ=>Q ρ σ
theorem uT:∀ {fs:List (Value->Sem Unit)} {vs:List CV} {Q:Loc->Sto->Prop} {ρ:Loc} {σ:Sto},fs.length=vs.length->WNs c n env own fs vs Q ρ σ->∀ {A s ws},Room n A->SG c σ s->FR c env own ρ σ s.heap->VRs s.heap vs ws ->
  wpAny (model c.prog c.w) A (assignInOrder fs ws) (PE c env own UR (fun _ ρ' σ'=>Q ρ' σ') σ s) Ef s
 | [],[],Q,ρ,σ,_,h,A,s,ws,hR,G,F,V=>by
  obtain rfl:=VRs.nil_iff.mp V
  exact wpAny_assignInOrder_none ⟨(),ρ,σ,trivial,G,F,Keep.refl _ _ _,h⟩
 | f::fs,v::vs,Q,ρ,σ,hl,h,A,s,ws,hR,G,F,V=>by
  refine zg (V.inv) ?_;rintro w r rfl hw V
  refine wpAny_assignInOrder_more (wgo (h.go A s w hR G F hw) (fun _ s₁ _ ρ1 σ₁ _ G1 F₁ K1 h₁=>?_))
  exact wpAny_mono (uT (by simpa using hl) h₁ hR G1 F₁ (V.mono (G.stayF F K1))) (fun _ _ x=>PE.trans K1 x) fun _ _ x=>x
 | [],_::_,_,_,_,hl,_,_,_,_,_,_,_,_=>by simp at hl
 | _::_,[],_,_,_,hl,_,_,_,_,_,_,_,_=>by simp at hl
theorem kC {elts:List Expr} {k:Nat} {pos:Pos} {vs:List CV} {Q:Loc->Sto->Prop} (hstar:(assignEach elts env).findIdx? (·.1)=none) (hl:(assignEach elts env).length=vs.length)
  (h:WNs c n env own ((assignEach elts env).map (·.2)) vs Q ρ σ):WA c n env own (.Tuple elts k pos) (.tup vs) Q ρ σ :=
 .mk fun A s w hR G F r=>by
  refine zg (xW r) ?_;intro a items q217 T V;obtain rfl:=q217
  have esz:items.size=vs.length:=by have:=V.length;rw [← this];simp
  refine wpAny_assign_Tuple hR.handled (zI T) (by rw [esz];exact hl) hstar fun h' hx=>?_
  refine zh (G.grow (h':=h') (t:=s.toks) (fun b o e=>hx b o (Nat.ne_of_lt (Heap.lt_size e)) e)) ?_;intro G' K' T'
  exact wpAny_mono (uT (by simpa using hl) h hR G' (F.step T' K') (V.mono T')) (fun _ _ x=>PE.trans (K'.own (by simp)) x) fun _ _ x=>x
theorem kD {elts:List Expr} {k:Nat} {tp pos:Pos} {e:Expr} {names:List Str} {Q:CF->Loc->Sto->Prop} (hs:swapsWithSole [.Tuple elts k tp] e pos.line env=pure false) (hw:swappedStores [.Tuple elts k tp] e env=pure (some names))
  (h:WE c n env own e (fun v σ₁=>∃ vs,v=.tup vs/\vs.length=names.length/\WNs c n env own (names.reverse.map fun x=>bindName env x) vs.reverse (fun ρ2 σ₂=>Q .next ρ2 σ₂) ρ σ₁) ρ σ):WS c n env own (.Assign [.Tuple elts k tp] e pos) Q ρ σ :=
 .mk fun A s hR G F=>by
  show wpAny _ A (exec (.Assign [.Tuple elts k tp] e pos) env) _ _ s
  rw [arm_exec_Assign,hs,hw]
  refine wpAny_bind (wpAny_standAt (wpAny_bind (wpAny_pure ?_)))
  simp only [Bool.false_eq_true,if_false]
  refine wpAny_bind (h.on0 hR G F (fun v s₁ g σ₁ r G1 F₁ K1 q0=>?_))
  refine zm q0 ?_;intro vs e2 hl h₁
  subst e2
  refine wpAny_bind (wpAny_pure ?_)
  refine zg (xW r) ?_;intro a items q218 T V;obtain rfl:=q218
  have esz:items.size=names.length:=by have:=V.length;rw [← hl,← this];simp
  show wpAny _ A (do rule "assign.swapped-stores";let items ← unpackItems (.ref a) names.length none;assignInOrder (names.reverse.map fun n=>bindName env n) items.reverse;pure Flow.next) _ _ s₁
  refine wpAny_bind (wpAny_rule (wpAny_bind ?_))
  rw [← esz]
  refine wpAny_unpackItems_tuple hR.handled (zI T) fun h' hx=>?_
  refine zh (G1.grow (h':=h') (t:=s₁.toks) (fun b o e=>hx b o (Nat.ne_of_lt (Heap.lt_size e)) e)) ?_;intro G' K' T'
  have V':=(V.mono T').reverse
  refine wpAny_bind (wgo (uT (by simp [hl]) h₁ hR G' (F₁.step T' K') V') (fun _ s₂ _ ρ2 σ₂ _ G2 F₂ K2 q=>?_))
  exact wpAny_pure ⟨.next,ρ2,σ₂,rfl,G2,F₂,(K1.trans (K'.own (by simp))).trans K2,q⟩
noncomputable def PairsR (h:Heap):List (CV × CV)->List (Value × Value)->Prop
 | [],vs=>vs=[]
 | e::es,vs=>∃ v r,vs=v::r/\VR h e.1 v.1/\VR h e.2 v.2/\PairsR h es r
theorem PairsR.mono {h h':Heap} (T:zv h h'):∀ {es:List (CV × CV)} {vs:List (Value × Value)},PairsR h es vs->PairsR h' es vs
 | [],_,x=>x
 | e::es,vs,x=>by
  refine zM (x) ?_;intro v r e1 a b d
  exact (zH v r e1 (a.mono T) (b.mono T) (d.mono T))
noncomputable abbrev WPr (c:Cx) (n:Nat) (env:Env) (own:List Addr) (pos:Pos) (keys:List (Option Expr)) (values:List Expr) (Q:List (CV × CV)->Sto->Prop) (ρ:Loc) (σ:Sto):Prop :=
 W c n env own PairsR (evalPairs (pairTrees keys values env pos)) (fun vs ρ' σ'=>ρ'=ρ/\Q vs σ') ρ σ
theorem kF {pos:Pos} {Q:List (CV × CV)->Sto->Prop} (h:Q [] σ):WPr c n env own pos [] [] Q ρ σ :=
 .mk fun A s hR G F=>evalPairs_nil (PE.ofE0 G F (g:=([]:List (CV × CV))) rfl ⟨rfl,h⟩)
theorem mS {k v:Expr} {ks:List (Option Expr)} {vs:List Expr} {pos:Pos} {Q:List (CV × CV)->Sto->Prop} (h:WE c n env own k (fun kv σ₁=>WE c n env own v (fun vv σ₂=>WPr c n env own pos ks vs (fun r σ₃=>Q ((kv,vv)::r) σ₃) ρ σ₂) ρ σ₁) ρ σ):WPr c n env own pos (some k::ks) (v::vs) Q ρ σ :=
 .mk fun A s hR G F=>pairTrees_cons_walk (h.on0 hR G F (fun kv s₁ g₁ σ₁ r₁ G1 F₁ K1 h₁=>by
  refine h₁.on0 hR G1 F₁ (fun vv s₂ g₂ σ₂ r₂ G2 F₂ K2 h₂=>?_)
  refine h₂.on0 hR G2 F₂ (fun r s₃ g₃ σ₃ r₃ G3 F3 K3 h₃=>?_)
  have T3:=G2.stayF F₂ K3
  exact ⟨(g₁,g₂)::g₃,ρ,σ₃,by exact (zH _ _ rfl ((r₁.mono (G1.stayF F₁ K2)).mono T3) (r₂.mono T3) r₃),G3,F3,(K1.trans K2).trans K3,rfl,h₃⟩))
theorem w3 {K:Type} [DecidableEq K] {es:List (K × CV)} {k:K} {v:CV} (h:k∉es.map (·.1)):stor es k v=es++[(k,v)]:=by
 unfold stor
 rw [if_neg]
 rw [List.any_eq_true]
 intro z1;refine za (z1) ?_;intro x hx e
 exact h (List.mem_map.mpr (z0 x hx (by simpa using e)))
theorem wY {K:Type} [DecidableEq K] {h:Heap}:∀ {es acc:List (K × CV)} {kvs accv:List (K × Value)},PairRel h es kvs->PairRel h acc accv->(acc.map (·.1)++es.map (·.1)).Nodup->PairRel h (acc++es) (merged accv kvs)
 | [],acc,kvs,accv,x,y,_=>by obtain rfl:=x;simpa [merged] using y
 | e::es,acc,kvs,accv,x,y,hn=>by
  refine zM (x) ?_;intro kv r q219 a b d;obtain rfl:=q219
  have y':=y.stored (k:=e.1) (cv:=e.2) b
  have hno:e.1∉acc.map (·.1):=by
   rw [List.map_cons,List.nodup_append] at hn
   intro hm
   exact hn.2.2 _ hm _ (by simp) rfl
  rw [w3 hno] at y'
  have:=wY (acc:=acc++[(e.1,e.2)]) d y' (by simpa using hn)
  have e3:merged accv (kv::r)=merged (PySem.stored accv e.1 kv.2) r:=by simp [merged,a]
  rw [e3]
  simpa using this
theorem pR {h:Heap} {K:Type} [DecidableEq K] {prog:Program} {w:World} {knd:KeyKind prog w K}:(h.push { cls:=.type "dict",data:=.dict #[] }).DictAt knd h.objs.size [] 0 :=
 (wf _ (#[]) (Heap.get?_push_size _ rfl) (⟨rfl,rfl,rfl⟩) rfl (fun _ he=>by simp at he) (.nil) (.nil))
theorem vx {h:Heap} {K:Type} [DecidableEq K] {prog:Program} {w:World} {knd:KeyKind prog w K} {a:Addr} {kvs:List (K × Value)} {ep:Nat} (D:h.DictAt knd a kvs ep):∃ o,h.get? a=some o/\∀ its n,o.data≠.seq its n:=by
 refine zM (D) ?_;intro o es ho q220 hd _;refine zh (q220) ?_;intro x1 x2 x3
 exact (z0 o ho (fun its n z=>by rw [hd] at z;cases z))
theorem kG {K:Type} [DecidableEq K] {knd:KeyKind c.prog c.w K} {mk:List (K × CV)->Nat->CO} {key:K->CV} (hmk:∀ {h a es ep},(∃ kvs,h.DictAt knd a kvs ep/\PairRel h es kvs/\es.length<=100000)->Rep c h a (mk es ep)) (hkey:∀ {h k v},VR h (key k) v->knd.is k v=true)
  {keys:List (Option Expr)} {values:List Expr} {pos:Pos} {Q:CV->Sto->Prop} (hall:keys.all (·.isSome)=true) (hl:keys.length=values.length) (h0:keys≠[]) (hlen:keys.length<=15)
  (h:WPr c n env own pos keys values (fun ps σ₁=>∃ es:List (K × CV),ps=es.map (fun e=>(key e.1,e.2))/\es.length<=15/\(es.map (·.1)).Nodup/\∀ d ep,σ₁ d=none->Q (.ref d) (upd σ₁ d (mk es ep))) ρ σ):WE c n env own (.Dict keys values pos) Q ρ σ :=
 .mk fun A s hR G F=>by
  refine wpAny_Dict_walk (knd:=knd) hall hl h0 hlen ?_
  refine zh (G.grow (h':=s.heap.push { cls:=.type "dict",data:=.dict #[] }) (t:=s.toks) (zl _ _)) ?_;intro G0 K0 T₀
  have F₀:=F.step T₀ K0
  have OD:Off c env own σ s s.heap.objs.size:=.mk' G F (Keep.refl _ _ _) (Nat.le_refl _)
  have hD0:(s.heap.push { cls:=.type "dict",data:=.dict #[] }).DictAt knd s.heap.objs.size [] 0:=pR
  refine h.on0 hR G0 F₀ (fun vs s₁ ps σ₁ r G1 F₁ K1 q0=>?_)
  refine wc q0 ?_;intro es ep hle hnd q
  subst ep
  refine y6 (hD0) ?_;intro o xs ho rr
  obtain ⟨hD1,hn1⟩:=K1 _ o ho (G.top (Nat.le_refl _)) OD.own
  have D₁:s₁.heap.DictAt knd s.heap.objs.size [] 0:=(zV o xs hD1 rr)
  have car:∀ {es:List (K × CV)} {vs:List (Value × Value)},PairsR s₁.heap (es.map (fun e=>(key e.1,e.2))) vs->∃ kvs,Carries knd vs kvs/\PairRel s₁.heap es kvs:=by
   intro es
   induction es with
   | nil=>intro vs x;obtain rfl:=x;exact (z0 ([]) trivial rfl)
   | cons e es ih =>
    intro vs x
    refine zM (x) ?_;intro v r q221 a b d;obtain rfl:=q221
    refine za (ih d) ?_;intro kvs hc hr
    exact (z0 ((e.1,v.2)::kvs) (⟨hkey a,rfl,hc⟩) (by exact (zH _ _ rfl rfl b hr)))
  refine za (car r) ?_;intro kvs hc hr
  refine (zt kvs hc D₁.dictOf (fun h' D' hs=>?_))
  obtain ⟨ep',D''⟩:=D'.dictAt
  have T':zv s₁.heap h':=yy hs (vx D₁)
  have M:Moved [s.heap.objs.size] s₁ { s₁ with heap:=h',toks:=s₁.toks+vs.length }:=⟨(zZ h' _ rfl),fun b o e nb=>(hs.2 b (by simpa using nb)).trans e⟩
  have G2:=G1.moved M T' (fun a ha=>by rw [List.mem_singleton] at ha;subst ha;exact ⟨hn1,OD.base⟩)
  have F₂:=F₁.moved T' M.2 (fun a ha hb=>OD.own (by rw [List.mem_singleton] at hb;exact hb ▸ ha)) (fun x a hx hb=>OD.cell x (by rw [List.mem_singleton] at hb;exact hb ▸ hx))
  have K2:Keep σ own s.heap h' σ₁:=fun b o e nb hb=>by
   obtain ⟨e0,n0⟩:=K0 b o e nb (by simp)
   obtain ⟨e1,n1⟩:=K1 b o e0 n0 hb
   exact ⟨M.2 b o e1 (fun z=>hb (by rw [List.mem_singleton] at z;subst z;exact OD.new o e nb)),n1⟩
  have hrel:PairRel h' es (merged [] kvs):=by
   have:=wY (acc:=[]) (accv:=[]) (hr.mono T') rfl (by simpa using hnd)
   simpa using this
  refine zh (adopt (s:={ s₁ with heap:=h',toks:=s₁.toks+vs.length }) (co:=mk es ep') G2 F₂ K2 OD (G.high (Nat.le_refl _)) (hmk (zt _ D'' hrel (o62 _ hle)))) ?_;intro G3 F3 K3
  exact ⟨.ref s.heap.objs.size,_,_,wk,G3,F3,K3,rfl,q _ ep' hn1⟩
theorem kH {keys:List (Option Expr)} {values:List Expr} {pos:Pos} {Q:CV->Sto->Prop} (hall:keys.all (·.isSome)=true) (hl:keys.length=values.length) (h0:keys≠[]) (hlen:keys.length<=15)
  (h:WPr c n env own pos keys values (fun ps σ₁=>∃ es:List (Str × CV),ps=es.map (fun e=>(.str e.1,e.2))/\es.length<=15/\(es.map (·.1)).Nodup/\∀ d ep,σ₁ d=none->Q (.ref d) (upd σ₁ d (.sdict es ep))) ρ σ):WE c n env own (.Dict keys values pos) Q ρ σ :=
 kG (knd:=PySem.strKind c.prog c.w) (mk:=fun es ep=>.sdict es ep) (key:=.str) (fun x=>x) (fun {h k v} x=>by obtain ⟨t,rfl⟩:=yN x;exact strKind_is c.prog c.w k t) hall hl h0 hlen h
theorem kI {keys:List (Option Expr)} {values:List Expr} {pos:Pos} {Q:CV->Sto->Prop} (hall:keys.all (·.isSome)=true) (hl:keys.length=values.length) (h0:keys≠[]) (hlen:keys.length<=15)
  (h:WPr c n env own pos keys values (fun ps σ₁=>∃ es:List (Int × CV),ps=es.map (fun e=>(.int e.1,e.2))/\es.length<=15/\(es.map (·.1)).Nodup/\∀ d ep,σ₁ d=none->Q (.ref d) (upd σ₁ d (.idict es ep))) ρ σ):WE c n env own (.Dict keys values pos) Q ρ σ :=
 kG (knd:=PySem.intKind c.prog c.w) (mk:=fun es ep=>.idict es ep) (key:=.int) (fun x=>x) (fun {h k v} x=>by obtain ⟨t,rfl⟩:=zz x;exact intKind_is c.prog c.w k t) hall hl h0 hlen h
theorem mT {e:Expr} {p p' pos:Pos} {Q:CV->Sto->Prop} (hkd:env.kindOf "isinstance" = some .globalImplicit) (hn:nsIn c.K mainGlobals "isinstance" = some none) (hkd':env.kindOf "bool" = some .globalImplicit) (hn':nsIn c.K mainGlobals "bool" = some none)
  (hplain:(backTo pos (starEach [e,.Name "bool" p'] env)).any (·.1)=false) (he:starEach [e,.Name "bool" p'] env=(false,eval e env)::starEach [.Name "bool" p'] env)
  (he':starEach [.Name "bool" p'] env=(false,eval (.Name "bool" p') env)::starEach [] env)
  (h:WE c n env own e (fun v σ₁=>∃ b,(match v with | .bool _=>b=true | .int _=>b=false | .str _=>b=false | .none=>b=false | _=>False)/\Q (.bool b) σ₁) ρ σ):WE c n env own (.Call (.Name "isinstance" p) [e,.Name "bool" p'] [] pos) Q ρ σ :=
 .mk fun A s hR G F=>wpAny_Call_NameR (zy G F hkd hn (v:=.builtin "isinstance") rfl (by decide) (by
  refine callWith_of (P:=c.K.In) (by rw [hplain];rfl) zP ?_
  have h1:wpAny (model c.prog c.w) A (spliced (backTo pos (starEach [e,.Name "bool" p'] env))) (fun vs s₁=>c.K.In s₁.heap/\wpAny (model c.prog c.w) A (call (.builtin "isinstance") ([]++vs) []) (PE c env own VR (fun g ρ' σ'=>ρ'=ρ/\Q g σ') σ s) Ef s₁) Ef s:=by
   refine spliced_more (h.on0 hR G F (fun v s₁ g σ₁ r G1 F₁ K1 q0=>?_)) he
   refine za q0 ?_;intro b hb q
   refine spliced_more (rest:=[]) (wpAny_mono (Q:=fun w s'=>w=.type "bool"/\s'=s₁) (zy G1 F₁ hkd' hn' (v:=.type "bool") rfl (by decide) ⟨rfl,rfl⟩ (by decide)) (fun w s' q224=>zY q224 fun e1 e2=>?_) fun _ _ x=>x) he'
   subst e1;subst e2
   refine spliced_none ⟨c.X.keeps G1.base,?_⟩
   exact wpAny_mono (mK (Q:=Q) (n:=n) (a:=g) (b:=b) (by cases g <;> exact hb) q rfl A _ v hR G1 r) (fun _ _ ⟨g,σ',r,G',K,q⟩=>⟨g,ρ,σ',r,G',F₁.step (G1.stay K) K,K1.trans (K.own (by simp)),rfl,q⟩) fun _ _ x=>x
  rw [he] at h1 ⊢
  exact evalArgs_plain h1) (by decide))
end

noncomputable def Subs (ρ:Loc):Loc->Prop
 | []=>True
 | e::r=>ρ.lookup e.1=some e.2/\Subs ρ r
theorem Subs.look {ρ:Loc}:∀ {ρ0:Loc} {x:Str} {v:CV},Subs ρ ρ0->ρ0.lookup x=some v->ρ.lookup x=some v
 | [],_,_,_,e=>by simp at e
 | (k,d)::r,x,v,s,e=>by
  rw [List.lookup_cons] at e
  cases q:x==k with
  | true=>rw [q] at e;cases e;obtain rfl:=beq_iff_eq.mp q;exact s.1
  | false=>rw [q] at e;exact s.2.look e
section
variable {c:Cx} {n:Nat} {env:Env} {own:List Addr} {ρ ρ0:Loc} {σ:Sto}
theorem FR.sub {h:Heap} (F:FR c env own ρ σ h) (s:Subs ρ ρ0):FR c env own ρ0 σ h :=
 ⟨F.kind,F.glob,F.built,za (F.ns) fun m hn hm=>(z0 m hn (fun x cv a b=>hm x cv (s.look a) b)),fun x cv a b=>F.cell x cv (s.look a) b,F.alive,F.apart,F.lown,F.ownok⟩
theorem kJ {b:List Stmt} {Q:CF->Loc->Sto->Prop} (s:Subs ρ ρ0) (h:WSS c n env own b Q ρ0 σ):WSS c n env own b Q ρ σ:=.mk fun A st hR G F=>h.go A st hR G (F.sub s)
theorem pS {test:Expr} {body:List Stmt} {pos:Pos} {Q:CF->Loc->Sto->Prop} (J:Nat->Loc->Sto->Prop) (k:Nat) (h0:∃ ρ0,Subs ρ ρ0/\J k ρ0 σ)
  (step:∀ k ρ' σ',J k ρ' σ'->WB c n env own test (fun b σ₁=>if b=true then WSS c n env own body (fun f ρ3 σ₃=>match f with
    | .next=>∃ m ρ0,m<k/\Subs ρ3 ρ0/\J m ρ0 σ₃
    | .cont=>∃ m ρ0,m<k/\Subs ρ3 ρ0/\J m ρ0 σ₃
    | .brk=>Q .next ρ3 σ₃
    | .ret v=>Q (.ret v) ρ3 σ₃) ρ' σ₁ else Q .next ρ' σ₁) ρ' σ'):WS c n env own (.While test body [] pos) Q ρ σ :=
 .mk fun A s hR G F=>by
  refine wpAny_While (codeAny_whileLoop (fun k s'=>∃ ρ' σ',J k ρ' σ'/\SG c σ' s'/\FR c env own ρ' σ' s'.heap/\Keep σ own s.heap s'.heap σ') (fun k s' hI'=>?_) k (za (h0) fun ρ0 s₀ hj=>(zH ρ0 σ hj G (F.sub s₀) (Keep.refl _ _ _))))
  refine zM (hI') ?_;intro ρ' σ' hJ' G' F' K'
  refine (step k ρ' σ' hJ').on0 hR G' F' (fun b s₁ g σ₁ rb G1 F₁ K1 q=>?_)
  unfold BR at rb;subst rb
  cases b with
  | false =>
   simp only [Bool.false_eq_true,if_false] at q ⊢
   exact wpAny_execs_nil ⟨.next,ρ',σ₁,rfl,G1,F₁,K'.trans K1,q⟩
  | true =>
   simp only [if_true] at q ⊢
   refine q.on hR G1 F₁ (fun f s₄ g ρ4 σ₄ rf G4 F4 K4 h₄=>?_)
   have K:=(K'.trans K1).trans K4
   cases g with
   | next=>obtain rfl:=rf;refine zg (h₄) ?_;intro m ρ0 hm hs hj;exact (z0 m hm (zH ρ0 σ₄ hj G4 (F4.sub hs) K))
   | cont=>obtain rfl:=rf;refine zg (h₄) ?_;intro m ρ0 hm hs hj;exact (z0 m hm (zH ρ0 σ₄ hj G4 (F4.sub hs) K))
   | brk=>obtain rfl:=rf;exact ⟨.next,ρ4,σ₄,rfl,G4,F4,K,h₄⟩
   | ret v=>refine za (rf) ?_;rintro w rfl rf;exact ⟨.ret v,ρ4,σ₄,(z0 w rfl rf),G4,F4,K,h₄⟩
theorem Turn.sub {σ0:Sto} {s₀:Shared} {its:List Addr} {I:List CV->Heap->Prop} {xs:List CV} {s:Shared} {ρ':Loc} (t:Turn c σ0 s₀ env own its I xs ρ' σ s) (h:Subs ρ' ρ0):Turn c σ0 s₀ env own its I xs ρ0 σ s:=⟨t.it,t.sg,t.fr.sub h,t.kp,t.off⟩
theorem nT {tgt iter:Expr} {body:List Stmt} {pos:Pos} {Q:CF->Loc->Sto->Prop}
  (h:WIt c n env own tgt iter (fun xs src σ₁=>∃ J:List CV->Loc->Sto->Prop,(∃ ρ0,Subs ρ ρ0/\J xs ρ0 σ₁)/\∀ xs ρ' σ',J xs ρ' σ'->src σ'/\match xs with
   | []=>Q .next ρ' σ'
   | x::r=>WA c n env own tgt x (fun ρ2 σ₂=>WSS c n env own body (fun f ρ3 σ₃=>match f with
    | .next=>∃ ρ0,Subs ρ3 ρ0/\J r ρ0 σ₃
    | .cont=>∃ ρ0,Subs ρ3 ρ0/\J r ρ0 σ₃
    | .brk=>Q .next ρ3 σ₃
    | .ret v=>Q (.ret v) ρ3 σ₃) ρ2 σ₂) ρ' σ') ρ σ)
  (hs:∀ x,foldedSetIterable iter env x=pure x:=by intro _;rfl):WS c n env own (.For tgt iter body [] pos) Q ρ σ :=
 .mk fun A s hR G F=>by
  refine wpAny_For (wpAny_mono (h.go A s hR G F) (fun x s₁ h₁=>wpAny_mono h₁ (fun it s₂ h₂=>?_) fun _ _ x=>x.elim) fun _ _ x=>x.elim) hs
  refine u0 (h₂) ?_;intro xs src σ₂ its I It hI hsrc hits G2 F₂ K2 q226;refine za (q226) ?_;intro J q227 step;refine za (q227) ?_;intro ρ0 hsub hJ
  refine codeAny_forLoop_any (fun k s'=>∃ ys ρ' σ',k=ys.length+1/\J ys ρ' σ'/\Turn c σ s env own its I ys ρ' σ' s') (fun k s' hI'=>?_) (xs.length+1) ⟨xs,ρ0,σ₂,rfl,hJ,hI,G2,F₂.sub hsub,K2,hits⟩
  refine ym (hI') ?_;intro ys ρ' σ' q228 hJ' t;obtain rfl:=q228
  obtain ⟨hsrc',hst⟩:=step ys ρ' σ' hJ'
  refine wpAny_mono (It.next A s' σ' ys hR.handled t.sg hsrc' t.it) (fun r s₁ h₁=>?_) fun _ _ x=>x.elim
  cases r with
  | none =>
   obtain ⟨rfl,M⟩:=h₁
   refine zh (t.rest M (M.tup (It.raw _ _ t.it))) ?_;intro x1 x2 x3
   exact wpAny_execs_nil ⟨.next,ρ',σ',rfl,x1,x2,x3,hst⟩
  | some v =>
   refine wpAny_mono h₁ (fun _ s2' h2'=>?_) fun _ _ x=>x.elim
   refine zM (h2') ?_;intro x r q230 rv hI2 M;obtain rfl:=q230
   have t₂:=t.moved It M hI2
   refine wgo (hst.go A s2' v hR t₂.sg t₂.fr rv) (fun _ s₃ _ ρ3 σ₃ _ G3 F3 K3 h₃=>?_)
   have t₃:=t₂.went It G3 F3 K3
   refine h₃.on hR G3 F3 (fun f s₄ g ρ4 σ₄ rf G4 F4 K4 h₄=>?_)
   have t₄:=t₃.went It G4 F4 K4
   cases g with
   | next=>obtain rfl:=rf;refine za (h₄) ?_;intro ρ0' hs' hj;exact (z0 (r.length+1) (by simp) (yn r ρ0' σ₄ rfl hj (t₄.sub hs')))
   | cont=>obtain rfl:=rf;refine za (h₄) ?_;intro ρ0' hs' hj;exact (z0 (r.length+1) (by simp) (yn r ρ0' σ₄ rfl hj (t₄.sub hs')))
   | brk=>obtain rfl:=rf;exact ⟨.next,ρ4,σ₄,rfl,G4,F4,t₄.kp,h₄⟩
   | ret v=>refine za (rf) ?_;rintro w rfl rf;exact ⟨.ret v,ρ4,σ₄,(z0 w rfl rf),G4,F4,t₄.kp,h₄⟩
noncomputable def Same (S:List Addr) (σ σ':Sto):Prop:=∀ a co,a∉S->σ a=some co->σ' a=some co
theorem Same.refl {S:List Addr}:Same S σ σ:=fun _ _ _ e=>e
theorem Same.trans {S:List Addr} {σ σ₁ σ₂:Sto} (x:Same S σ σ₁) (y:Same S σ₁ σ₂):Same S σ σ₂:=fun a co h e=>y a co h (x a co h e)
theorem Same.upd_new {S:List Addr} {a:Addr} {co:CO} (h:σ a=none):Same S σ (upd σ a co):=fun b cb hb e=>by
 rw [zB (by rintro rfl;rw [h] at e;cases e)];exact e
theorem Same.upd_in {S:List Addr} {a:Addr} {co:CO} (h:a∈S):Same S σ (upd σ a co):=fun b cb hb e=>by
 rw [zB (by rintro rfl;exact hb h)];exact e
theorem Same.le {S S':List Addr} {σ σ':Sto} (x:Same S σ σ') (h:∀ a∈S,a∈S'):Same S' σ σ':=fun a co hb e=>x a co (fun z=>hb (h a z)) e
theorem kK {a:Addr} {xs:List CV} {Q:CV->Sto->Prop} (ha:σ a=some (.list xs)) (h:∀ d,σ d=none->Q (.ref d) (upd σ d (.list xs))):OW c n VR [.ref a] (zQ (.type "list")) Q σ :=
 ow1 fun A s v _ G hv=>by
  obtain rfl:=zO hv
  refine zm (G.list ha) ?_;intro items P V hl
  obtain ⟨k,P⟩:=P
  have e:items.size=xs.length:=by have:=V.length;rw [← this];simp
  refine call_list_seq a (.inl rfl) P rfl rfl (fun h' c' hk hp=>?_) (by rw [e,sizeLine_eq];exact o14 _ hl)
  exact PG.newList (t:=s.toks) G (Nat.le_refl _) hk ⟨c',hp⟩ V hl h
theorem ug {h:Heap} {a:Int}:∀ {k:Nat} {j:Nat} {vs:List Value},vs.length=k->(∀ i v,vs[i]?=some v->∃ t,v=Value.int (a+(j+i:Nat)*1) t)->VRs h (rng (a+j) 1 k) vs
 | 0,j,vs,hl,hv=>by obtain rfl:=List.length_eq_zero_iff.mp hl;exact .nil
 | k+1,j,vs,hl,hv=>by
  cases vs with
  | nil=>simp at hl
  | cons v r =>
   obtain ⟨t,ht⟩:=hv 0 v rfl
   refine .cons ?_ ?_
   ·rw [ht];have:a+((j+0:Nat):Int)*1=a+j:=by exact o63 _ _
    rw [this];exact isInt
   ·have:=ug (h:=h) (a:=a) (k:=k) (j:=j+1) (vs:=r) (by simpa using hl) (fun i v e=>by
     obtain ⟨t,ht⟩:=hv (i+1) v (by simpa using e)
     exact ⟨t,by rw [ht];congr 1;exact o64 _ _ _⟩)
    have e2:a+((j+1:Nat):Int)=a+j+1:=by exact o65 _ _
    rw [e2] at this;exact this
theorem yv (a d:Int):∀ k,(rng a d k).length=k
 | 0=>rfl
 | k+1=>by simp [rng,yv (a+d) d k]
theorem sW {e e':Expr} {p p' pos pos':Pos} {Q:CV->Sto->Prop} (hkd:env.kindOf "range" = some .globalImplicit) (hn:nsIn c.K mainGlobals "range" = some none) (hkd':env.kindOf "list" = some .globalImplicit) (hn':nsIn c.K mainGlobals "list" = some none)
  (hplain:(backTo pos (starEach [e,e'] env)).any (·.1)=false) (he:starEach [e,e'] env=(false,eval e env)::starEach [e'] env)
  (hplain':(backTo pos' (starEach [.Call (.Name "range" p) [e,e'] [] pos] env)).any (·.1)=false) (he':starEach [.Call (.Name "range" p) [e,e'] [] pos] env=(false,eval (.Call (.Name "range" p) [e,e'] [] pos) env)::starEach [] env)
  (h:WAs c n env own pos [e,e'] (fun vs σ₁=>∃ a b:Int,vs=[.int a,.int b]/\-1000000<=a/\a<=1000000/\-1000000<=b/\b<=1000000/\(b-a).toNat<=100000/\∀ d,σ₁ d=none->Q (.ref d) (upd σ₁ d (.list (rng a 1 (b-a).toNat)))) ρ σ) :
  WE c n env own (.Call (.Name "list" p') [.Call (.Name "range" p) [e,e'] [] pos] [] pos') Q ρ σ :=
 .mk fun A s hR G F=>wpAny_Call_NameR (zy G F hkd' hn' (v:=.type "list") rfl (by decide) (by
  refine callWith_of (P:=c.K.In) (by rw [hplain'];rfl) yG ?_
  have h1:wpAny (model c.prog c.w) A (spliced (backTo pos' (starEach [.Call (.Name "range" p) [e,e'] [] pos] env))) (fun vs s₁=>c.K.In s₁.heap/\wpAny (model c.prog c.w) A (call (.type "list") ([]++vs) []) (PE c env own VR (fun g ρ' σ'=>ρ'=ρ/\Q g σ') σ s) Ef s₁) Ef s:=by
   refine spliced_more (rest:=[]) (wpAny_Call_NameR (zy G F hkd hn (v:=.type "range") rfl (by decide) (yP yG hplain he h hR G F fun vals vs s₁ σ₁ G1 F₁ K1 V hq=>?_) (by decide))) he'
   refine nC (hq) ?_;intro a b ev h1 h2 h3 h4 h5 q
   subst ev
   refine zg (V.inv) ?_;rintro v r rfl hv V
   refine zg (V.inv) ?_;rintro w r rfl hw V
   obtain rfl:=VRs.nil_iff.mp V
   obtain ⟨t,rfl⟩:=zz hv
   obtain ⟨u,rfl⟩:=zz hw
   refine call_range_2 (spliced_none ?_)
   refine zh (G1.grow (h':=s₁.heap.push { cls:=.type "range",data:=.fields #[.int a t,.int b u,.int 1 s₁.toks] }) (t:=s₁.toks+1) (zl _ _)) ?_;intro G2 K2 T₂
   refine ⟨c.X.keeps G2.base,?_⟩
   have F₂:=F₁.step T₂ K2
   refine call_list_range (n:=(b-a).toNat) hR.handled (IsRange.new ..) (yQ h1 h2 h3 h4) (by rw [PySem.rangeSize_one];split <;> (first | exact o50 _ _ (by assumption) | exact o51 _ _ (by assumption))) (o66 _ _ h5) (fun h' tk acc' c' hk hp hit=>?_)
   have hpl:h'.PlainList (s₁.heap.push { cls:=.type "range",data:=.fields #[.int a t,.int b u,.int 1 s₁.toks] }).objs.size acc':=⟨c',hp⟩
   have hv:VRs (s₁.heap.push { cls:=.type "range",data:=.fields #[.int a t,.int b u,.int 1 s₁.toks] }) (rng a 1 (b-a).toNat) acc'.toList:=by
    have:=ug (h:=s₁.heap.push { cls:=.type "range",data:=.fields #[.int a t,.int b u,.int 1 s₁.toks] }) (a:=a) (k:=(b-a).toNat) (j:=0) (vs:=acc'.toList) (by simpa using hit.1) (fun i v e=>by
     obtain ⟨t,ht⟩:=hit.2 i v (by simpa using e)
     exact ⟨t,by rw [ht];simp⟩)
    simpa using this
   obtain ⟨d,σ₄,r₄,G4,K4,q₄⟩:=PG.newList (t:=tk) (Q:=Q) G2 (Nat.le_refl _) hk hpl hv (by rw [yv];exact h5) q
   exact ⟨d,ρ,σ₄,r₄,G4,F₂.step (G2.stay K4) K4,(K1.trans (K2.own (by simp))).trans (K4.own (by simp)),rfl,q₄⟩
  rw [he'] at h1 ⊢
  exact evalArgs_plain h1) (by decide))
end
section
variable {c:Cx} {n:Nat} {env:Env} {own:List Addr} {ρ ρ0:Loc} {σ:Sto}
theorem kL {st:Stmt} {rest:List Stmt} {Q:CF->Loc->Sto->Prop} (P:Loc->Sto->Prop) (h:WS c n env own st (fun f ρ1 σ₁=>match f with | .next=>∃ ρ0,Subs ρ1 ρ0/\P ρ0 σ₁ | f=>Q f ρ1 σ₁) ρ σ) (hr:∀ ρ1 σ₁,P ρ1 σ₁->WSS c n env own rest Q ρ1 σ₁):WSS c n env own (st::rest) Q ρ σ :=
 yM (W.mono h fun f ρ1 σ₁ q=>by
  cases f with
  | next=>refine za (q) ?_;intro ρ0 hs hp;exact kJ hs (hr ρ0 σ₁ hp)
  | brk=>exact q
  | cont=>exact q
  | ret v=>exact q)
theorem zE {e:Expr} {Q Q':CV->Sto->Prop} (h:WE c n env own e Q ρ σ) (hq:∀ v σ',Q v σ'->Q' v σ'):WE c n env own e Q' ρ σ:=W.mono h fun _ _ _ q236=>zY q236 fun a b=>⟨a,hq _ _ b⟩
end
section
variable {σ:Sto} {a b:Addr} {co cb:CO}
theorem zk (h:σ b=some cb) (n:σ a=none):upd σ a co b=some cb:=by rw [zB (by rintro rfl;rw [h] at n;cases n)];exact h
theorem zn (h:b≠a) (e:σ b=some cb):upd σ a co b=some cb:=by rw [zB h];exact e
theorem zi (h:upd σ a co b=none):σ b=none/\b≠a:=by
 by_cases q:b=a
 ·subst q;rw [zb] at h;cases h
 ·rw [zB q] at h;exact ⟨h,q⟩
theorem zf (h:σ b=some cb) (n:σ a=none):b≠a:=by rintro rfl;rw [h] at n;cases n
theorem Same.newU {S:List Addr} {σ0:Sto} (x:Same S σ0 σ) (h:σ a=none):Same S σ0 (upd σ a co):=x.trans (Same.upd_new h)
theorem Same.inU {S:List Addr} {σ0:Sto} (x:Same S σ0 σ) (h:a∈S):Same S σ0 (upd σ a co):=x.trans (Same.upd_in h)
theorem Same.lateU {S:List Addr} {σ0:Sto} (x:Same S σ0 σ) (h:σ0 a=none):Same S σ0 (upd σ a co):=fun b cb hb e=>by
 rw [zB (by rintro rfl;rw [h] at e;cases e)];exact x b cb hb e
end
section
variable {c:Cx} {n:Nat} {env:Env} {own:List Addr} {ρ ρ0:Loc} {σ:Sto} {Q:CV->Sto->Prop}
theorem mU {f:Value->Sem Unit} {fs:List (Value->Sem Unit)} {v:CV} {vs:List CV} {Q:Loc->Sto->Prop} (h:WN c n env own f v (fun ρ1 σ₁=>WNs c n env own fs vs Q ρ1 σ₁) ρ σ):WNs c n env own (f::fs) (v::vs) Q ρ σ:=h
theorem kM {Q:Loc->Sto->Prop} (h:Q ρ σ):WNs c n env own [] [] Q ρ σ:=h
theorem tV {t:Expr} {v:CV} {Q:Loc->Sto->Prop} (h:WA c n env own t v Q ρ σ):WN c n env own (assign t env) v Q ρ σ:=⟨h.go⟩
theorem xp {n:Nat} {k:Int} (h0:0<=k) (h1:k<=n):clipAt n k=k.toNat:=by
 unfold clipAt
 split <;> (first | exact o67 _ _ h0 (by assumption) | exact o68 _ _ h1)
theorem w5 {α:Type} {xs:List α} {k:Int} (h0:0<=k) (h1:k<=xs.length):csl xs none (some k)=xs.take k.toNat:=by
 unfold csl
 simp [xp h0 h1]
theorem yo {α:Type} {xs:List α} {k:Int} (h0:0<=k) (h1:k<=xs.length):csl xs (some k) none=xs.drop k.toNat:=by
 unfold csl
 simp only [Option.elim,xp h0 h1]
 exact List.take_of_length_le (by simp)
theorem mV {α:Type} {xs:List α} {j k:Int} (h0:0<=j) (h1:j<=xs.length) (h2:0<=k) (h3:k<=xs.length):csl xs (some j) (some k)=(xs.drop j.toNat).take (k.toNat-j.toNat):=by
 unfold csl
 simp [xp h0 h1,xp h2 h3]
end
section
variable {c:Cx} {σ:Sto}
theorem zA {a:Addr} {xs:List CV} (h:σ a=some (.list xs)):yb c (.ref a) "append" (.builtin "list.append") σ:=xY h PySem.F.slot_list_append PySem.F.type_list_append
theorem mW {a:Addr} {xs:List CV} (h:σ a=some (.list xs)):yb c (.ref a) "pop" (.builtin "list.pop") σ:=xY h PySem.F.slot_list_pop PySem.F.type_list_pop
theorem sX {a:Addr} {xs:List CV} (h:σ a=some (.list xs)):yb c (.ref a) "extend" (.builtin "list.extend") σ:=xY h PySem.F.slot_list_extend PySem.F.type_list_extend
theorem qo {a:Addr} {xs:List CV} (h:σ a=some (.list xs)):yb c (.ref a) "index" (.builtin "list.index") σ:=xY h PySem.F.slot_list_index PySem.F.type_list_index
theorem tW {a:Addr} {es:List (Str × CV)} {ep:Nat} (h:σ a=some (.sdict es ep)):yb c (.ref a) "get" (.builtin "dict.get") σ:=qc h PySem.F.slot_dict_get PySem.F.type_dict_get
theorem tX {a:Addr} {es:List (Int × CV)} {ep:Nat} (h:σ a=some (.idict es ep)):yb c (.ref a) "get" (.builtin "dict.get") σ:=qd h PySem.F.slot_dict_get PySem.F.type_dict_get
end

section
variable {c:Cx} {n:Nat} {env:Env} {own:List Addr} {ρ:Loc} {σ:Sto}
theorem tY {tgt:Expr} {v:CV} {Q:Loc->Sto->Prop} {ρ0:Loc} (s:Subs ρ ρ0) (h:WA c n env own tgt v Q ρ0 σ):WA c n env own tgt v Q ρ σ:=.mk fun A st w hR G F r=>h.go A st w hR G (F.sub s) r
theorem tZ {ifs:List Expr} {Q Q':Bool->Sto->Prop} (h:WF c n env own ifs Q ρ σ) (hq:∀ b σ',Q b σ'->Q' b σ'):WF c n env own ifs Q' ρ σ:=W.mono h fun _ _ _ q237=>zY q237 fun a b=>⟨a,hq _ _ b⟩
theorem xq {tgt:Expr} {v:CV} {Q Q':Loc->Sto->Prop} (h:WA c n env own tgt v Q ρ σ) (hq:∀ ρ' σ',Q ρ' σ'->Q' ρ' σ'):WA c n env own tgt v Q' ρ σ :=
 .mk fun A s w hR G F r=>wpAny_mono (h.go A s w hR G F r) (fun _ _ ⟨g,ρ',σ',a,b,d,e,f⟩=>⟨g,ρ',σ',a,b,d,e,hq _ _ f⟩) fun _ _ x=>x
theorem yS {tgt e:Expr} {Q Q':List CV->(Sto->Prop)->Sto->Prop} (h:WIt c n env own tgt e Q ρ σ) (hq:∀ xs src σ',src σ'->Q xs src σ'->Q' xs src σ'):WIt c n env own tgt e Q' ρ σ :=
 .mk fun A s hR G F=>wpAny_mono (h.go A s hR G F) (fun x s₁ h₁=>wpAny_mono h₁ (fun it s₂ q238=>u0 q238 fun xs src σ₂ its I a1 a2 a3 a4 a5 a6 a7 a8=>(u3 xs src σ₂ its I a1 a2 a3 a4 a5 a6 a7 (hq _ _ _ a3 a8))) fun _ _ x=>x) fun _ _ x=>x
theorem qp {elt tgt iter:Expr} {ifs:List Expr} {scope:Scope} {pos:Pos} {cl:List (Str × Addr)} {fv:Loc} {Q:CV->Sto->Prop}
  (ok:CompOk env ρ scope cl fv) (hs:∀ x,foldedSetIterable iter env x=pure x)
  (h:WIt c n env own tgt iter (fun xs src σ₁=>∃ J:List CV->List CV->Sto->Prop,J xs [] σ₁/\∀ C xs ys σ',J xs ys σ'->src σ'/\match xs with
   | []=>ys.length<=100000/\∀ d,σ' d=none->Q (.ref d) (upd σ' d (.list ys))
   | x::r=>WA c n (compEnvC scope cl C env) [C] tgt x (fun ρ2 σ₂=>WF c n (compEnvC scope cl C env) [C] ifs (fun b σ₃=>if b=true then ys.length<100000/\WE c n (compEnvC scope cl C env) [C] elt (fun v σ₄=>Subs ρ2 fv/\J r (ys++[v]) σ₄) ρ2 σ₃ else Subs ρ2 fv/\J r ys σ₃) ρ2 σ₂) fv σ') ρ σ) :
  WE c n env own (.ListComp elt [⟨tgt,iter,ifs,0⟩] scope pos) Q ρ σ:=by
 refine kB (act:=wn elt scope cl env) ok hs (fun C D it=>vw C D it) (yS h fun xs src σ₁ _ q239=>za q239 fun J hJ step=>(z0 (fun xs ys ρ' σ'=>Subs ρ' fv/\J xs ys σ') (⟨?_,hJ⟩) (fun k hk1 hk2 hk3 KO xs ys ρ' σ' hj=>?_)))
 ·have:∀ (l r:Loc),(∀ e∈r,l.lookup e.1=some e.2)->Subs l r:=by
   intro l r
   induction r with
   | nil=>intro _;trivial
   | cons a r ih=>intro h;exact ⟨h a (by simp),ih fun e he=>h e (by simp [he])⟩
  refine this _ _ fun e he=>?_
  have hnd:∀ e∈fv,ρ.lookup e.1=some e.2:=fun e he=>(ok.fv e he).1
  have:∀ (l:Loc),(∀ e∈l,ρ.lookup e.1=some e.2)->∀ e∈l,l.lookup e.1=some e.2:=by
   intro l
   induction l with
   | nil=>intro _ e he;cases he
   | cons a r ih =>
    intro h e he
    obtain ⟨k,d⟩:=a
    rw [List.lookup_cons]
    cases q:e.1==k with
    | true =>
     obtain rfl:=eq_of_beq q
     have h1:=h (e.1,d) (by simp)
     have h2:=h e he
     rw [h1] at h2;exact h2
    | false =>
     rcases List.mem_cons.mp he with rfl | he
     ·simp at q
     ·exact ih (fun e he=>h e (by simp [he])) e he
  exact this fv hnd e he
 ·obtain ⟨hsub,hj⟩:=hj
  obtain ⟨h1,h2⟩:=step k.C xs ys σ' hj
  refine ⟨h1,?_⟩
  cases xs with
  | nil=>exact h2
  | cons x r =>
   rw [hk3]
   refine tY hsub (xq h2 fun ρ2 σ₂ hf=>tZ hf fun b σ₃ hb=>?_)
   cases b with
   | false=>simpa using hb
   | true =>
    simp only [if_true] at hb ⊢
    have:=tU (c:=c) (n:=n) (env:=env) (elt:=elt) (k:=k) (scope:=scope) (cl:=cl) (ys:=ys) (ρ':=ρ2) (σ:=σ₃) (Q:=fun ys' ρ4 σ₄=>Subs ρ4 fv/\J r ys' σ₄) KO (by rw [hk3,hk1]) hk1 (by rw [hk3];exact hb.2) hb.1
    exact this
theorem vy {elt tgt iter:Expr} {y:Str} {py spos:Pos} {ifs:List Expr} {scope:Scope} {pos:Pos} {cl:List (Str × Addr)} {fv:Loc} {Q:CF->Loc->Sto->Prop}
  (hsw:swapsWith (.ListComp elt [⟨tgt,iter,ifs,0⟩] scope pos) (some (.Name y py)) spos.line env=pure true)
  (ok:CompOk env ρ scope cl fv) (hs:∀ x,foldedSetIterable iter env x=pure x)
  (h:WIt c n env own tgt iter (fun xs src σ₁=>∃ J:List CV->List CV->Sto->Prop,J xs [] σ₁/\∀ C xs ys σ',J xs ys σ'->src σ'/\match xs with
   | []=>ys.length<=100000/\∀ d,σ' d=none->WA c n env own (.Name y py) (.ref d) (fun ρ2 σ₂=>Q .next ρ2 σ₂) ρ (upd σ' d (.list ys))
   | x::r=>WA c n (compEnvC scope cl C env) [C] tgt x (fun ρ2 σ₂=>WF c n (compEnvC scope cl C env) [C] ifs (fun b σ₃=>if b=true then ys.length<100000/\WE c n (compEnvC scope cl C env) [C] elt (fun v σ₄=>Subs ρ2 fv/\J r (ys++[v]) σ₄) ρ2 σ₃ else Subs ρ2 fv/\J r ys σ₃) ρ2 σ₂) fv σ') ρ σ) :
  WS c n env own (.Assign [.Name y py] (.ListComp elt [⟨tgt,iter,ifs,0⟩] scope pos) spos) Q ρ σ:=by
 refine xS (act:=wn elt scope cl env) hsw ok hs (fun C D it=>vw C D it) (yS h fun xs src σ₁ _ q240=>za q240 fun J hJ step=>(z0 (fun xs ys ρ' σ'=>Subs ρ' fv/\J xs ys σ') (⟨?_,hJ⟩) (fun k hk1 hk2 hk3 KO xs ys ρ' σ' hj=>?_)))
 ·have:∀ (l r:Loc),(∀ e∈r,l.lookup e.1=some e.2)->Subs l r:=by
   intro l r
   induction r with
   | nil=>intro _;trivial
   | cons a r ih=>intro h;exact ⟨h a (by simp),ih fun e he=>h e (by simp [he])⟩
  refine this _ _ fun e he=>?_
  have hnd:∀ e∈fv,ρ.lookup e.1=some e.2:=fun e he=>(ok.fv e he).1
  have:∀ (l:Loc),(∀ e∈l,ρ.lookup e.1=some e.2)->∀ e∈l,l.lookup e.1=some e.2:=by
   intro l
   induction l with
   | nil=>intro _ e he;cases he
   | cons a r ih =>
    intro h e he
    obtain ⟨k,d⟩:=a
    rw [List.lookup_cons]
    cases q:e.1==k with
    | true =>
     obtain rfl:=eq_of_beq q
     have h1:=h (e.1,d) (by simp)
     have h2:=h e he
     rw [h1] at h2;exact h2
    | false =>
     rcases List.mem_cons.mp he with rfl | he
     ·simp at q
     ·exact ih (fun e he=>h e (by simp [he])) e he
  exact this fv hnd e he
 ·obtain ⟨hsub,hj⟩:=hj
  obtain ⟨h1,h2⟩:=step k.C xs ys σ' hj
  refine ⟨h1,?_⟩
  cases xs with
  | nil=>exact h2
  | cons x r =>
   rw [hk3]
   refine tY hsub (xq h2 fun ρ2 σ₂ hf=>tZ hf fun b σ₃ hb=>?_)
   cases b with
   | false=>simpa using hb
   | true =>
    simp only [if_true] at hb ⊢
    have:=tU (c:=c) (n:=n) (env:=env) (elt:=elt) (k:=k) (scope:=scope) (cl:=cl) (ys:=ys) (ρ':=ρ2) (σ:=σ₃) (Q:=fun ys' ρ4 σ₄=>Subs ρ4 fv/\J r ys' σ₄) KO (by rw [hk3,hk1]) hk1 (by rw [hk3];exact hb.2) hb.1
    exact this
noncomputable def s4 (c:Cx) (n:Nat) (env:Env) (tgt elt:Expr) (ifs:List Expr) (scope:Scope) (cl:List (Str × Addr)) (fv:Loc) (σ:Sto) (p:CV->Bool) (f:CV->CV) (x:CV):Prop :=
 ∀ C,WA c n (compEnvC scope cl C env) [C] tgt x (fun ρ2 σ₂=>σ₂=σ/\Subs ρ2 fv/\WF c n (compEnvC scope cl C env) [C] ifs (fun b σ₃=>σ₃=σ/\b=p x/\(b=true->WE c n (compEnvC scope cl C env) [C] elt (fun v σ₄=>v=f x/\σ₄=σ) ρ2 σ)) ρ2 σ) fv σ
theorem yC (p:CV->Bool) (f:CV->CV) (done:List CV) (x:CV):((done++[x]).filter p).map f=(done.filter p).map f++(if p x then [f x] else []):=by
 rw [List.filter_append];cases h:p x <;> simp [h]
theorem ye {elt tgt iter:Expr} {ifs:List Expr} {scope:Scope} {pos:Pos} {cl:List (Str × Addr)} {fv:Loc} {Q:CV->Sto->Prop}
  (ok:CompOk env ρ scope cl fv) (hs:∀ x,foldedSetIterable iter env x=pure x)
  (h:WIt c n env own tgt iter (fun xs src σ₁=>xs.length<=100000/\∃ (p:CV->Bool) (f:CV->CV),(∀ x∈xs,s4 c n env tgt elt ifs scope cl fv σ₁ p f x)/\∀ d,σ₁ d=none->Q (.ref d) (upd σ₁ d (.list ((xs.filter p).map f)))) ρ σ) :
  WE c n env own (.ListComp elt [⟨tgt,iter,ifs,0⟩] scope pos) Q ρ σ:=by
 refine qp ok hs (yS h fun xs0 src σ₁ hsrc q242=>zY q242 fun hl q241=>y6 q241 fun p f hb hq=>⟨fun xs ys σ'=>σ'=σ₁/\∃ done,done++xs=xs0/\ys=(done.filter p).map f,⟨rfl,(z0 ([]) rfl rfl)⟩,?_⟩)
 intro C xs ys σ' z1;obtain ⟨q243,q244⟩:=z1;obtain rfl:=q243;refine za (q244) ?_;intro done q245 q246;obtain rfl:=q245;obtain rfl:=q246
 have hlen:((done.filter p).map f).length<=done.length:=by rw [List.length_map];exact List.length_filter_le ..
 refine ⟨hsrc,?_⟩
 cases xs with
 | nil=>rw [List.append_nil] at hl hq;exact ⟨by exact o69 _ _ hlen hl,hq⟩
 | cons x r =>
  refine xq (hb x (by simp) C) fun ρ2 σ₂ q247=>zh q247 fun e hsub hf=>?_
  subst e
  refine tZ hf fun b σ₃ q248=>zh q248 fun e eb he=>?_
  subst e
  cases b with
  | false =>
   rw [if_neg (by decide)]
   exact ⟨hsub,rfl,(z0 (done++[x]) (by simp) (by rw [yC,← eb];simp))⟩
  | true =>
   rw [if_pos rfl]
   refine ⟨by simp at hl;exact o70 _ _ _ hl hlen,W.mono (he rfl) fun v ρ' σ₄ q249=>zh q249 fun e1 e2 e3=>⟨e1,hsub,e3,(z0 (done++[x]) (by simp) (by rw [yC,← eb,e2];simp))⟩⟩
theorem y9 {elt tgt iter:Expr} {y:Str} {py spos:Pos} {ifs:List Expr} {scope:Scope} {pos:Pos} {cl:List (Str × Addr)} {fv:Loc} {Q:CF->Loc->Sto->Prop}
  (hsw:swapsWith (.ListComp elt [⟨tgt,iter,ifs,0⟩] scope pos) (some (.Name y py)) spos.line env=pure true)
  (ok:CompOk env ρ scope cl fv) (hs:∀ x,foldedSetIterable iter env x=pure x)
  (h:WIt c n env own tgt iter (fun xs src σ₁=>xs.length<=100000/\∃ (p:CV->Bool) (f:CV->CV),(∀ x∈xs,s4 c n env tgt elt ifs scope cl fv σ₁ p f x)/\∀ d,σ₁ d=none->WA c n env own (.Name y py) (.ref d) (fun ρ2 σ₂=>Q .next ρ2 σ₂) ρ (upd σ₁ d (.list ((xs.filter p).map f)))) ρ σ) :
  WS c n env own (.Assign [.Name y py] (.ListComp elt [⟨tgt,iter,ifs,0⟩] scope pos) spos) Q ρ σ:=by
 refine vy hsw ok hs (yS h fun xs0 src σ₁ hsrc q251=>zY q251 fun hl q250=>y6 q250 fun p f hb hq=>⟨fun xs ys σ'=>σ'=σ₁/\∃ done,done++xs=xs0/\ys=(done.filter p).map f,⟨rfl,(z0 ([]) rfl rfl)⟩,?_⟩)
 intro C xs ys σ' z2;obtain ⟨q252,q253⟩:=z2;obtain rfl:=q252;refine za (q253) ?_;intro done q254 q255;obtain rfl:=q254;obtain rfl:=q255
 have hlen:((done.filter p).map f).length<=done.length:=by rw [List.length_map];exact List.length_filter_le ..
 refine ⟨hsrc,?_⟩
 cases xs with
 | nil=>rw [List.append_nil] at hl hq;exact ⟨by exact o69 _ _ hlen hl,hq⟩
 | cons x r =>
  refine xq (hb x (by simp) C) fun ρ2 σ₂ q256=>zh q256 fun e hsub hf=>?_
  subst e
  refine tZ hf fun b σ₃ q257=>zh q257 fun e eb he=>?_
  subst e
  cases b with
  | false =>
   rw [if_neg (by decide)]
   exact ⟨hsub,rfl,(z0 (done++[x]) (by simp) (by rw [yC,← eb];simp))⟩
  | true =>
   rw [if_pos rfl]
   refine ⟨by simp at hl;exact o70 _ _ _ hl hlen,W.mono (he rfl) fun v ρ' σ₄ q258=>zh q258 fun e1 e2 e3=>⟨e1,hsub,e3,(z0 (done++[x]) (by simp) (by rw [yC,← eb,e2];simp))⟩⟩
end

section
variable {c:Cx} {n:Nat} {env:Env} {own:List Addr} {ρ:Loc} {σ:Sto}
noncomputable abbrev IsB (c:Cx) (n:Nat) (env:Env) (own:List Addr) (e:Expr) (b:Bool) (ρ:Loc) (σ:Sto):Prop:=WB c n env own e (fun b' σ'=>b'=b/\σ'=σ) ρ σ
noncomputable abbrev IsV (c:Cx) (n:Nat) (env:Env) (own:List Addr) (e:Expr) (b:Bool) (ρ:Loc) (σ:Sto):Prop:=WE c n env own e (fun v σ'=>v=.bool b/\σ'=σ) ρ σ
noncomputable def i9 (c:Cx) (n:Nat) (env:Env) (own:List Addr) (ρ:Loc) (σ:Sto):List Expr->List Bool->Prop
 | [],[]=>True
 | e::es,b::bs=>IsB c n env own e b ρ σ/\(b=true->i9 c n env own ρ σ es bs)
 | _,_=>False
noncomputable def ia (c:Cx) (n:Nat) (env:Env) (own:List Addr) (ρ:Loc) (σ:Sto):List Expr->List Bool->Prop
 | [],[]=>True
 | e::es,b::bs=>IsB c n env own e b ρ σ/\(b=false->ia c n env own ρ σ es bs)
 | _,_=>False
theorem nU:∀ {es:List Expr} {bs:List Bool} {Q:Bool->Sto->Prop},i9 c n env own ρ σ es bs->Q (bs.all id) σ->WT c n env own .And es Q ρ σ
 | [],[],Q,_,q=>pF q
 | e::es,b::bs,Q,h,q=>kb (W.mono h.1 fun b' ρ' σ' q259=>zh q259 fun e1 e2 e3=>⟨e1,by
   subst e2;replace e3:=e3.symm;subst e3
   cases b' with
   | true=>rw [if_pos rfl];exact nU (h.2 rfl) (by simpa using q)
   | false=>rw [if_neg (by decide)];simpa using q⟩)
 | [],_::_,_,h,_=>h.elim
 | _::_,[],_,h,_=>h.elim
theorem kN:∀ {es:List Expr} {bs:List Bool} {Q:Bool->Sto->Prop},ia c n env own ρ σ es bs->Q (bs.any id) σ->WT c n env own .Or es Q ρ σ
 | [],[],Q,_,q=>pF q
 | e::es,b::bs,Q,h,q=>iW (W.mono h.1 fun b' ρ' σ' q260=>zh q260 fun e1 e2 e3=>⟨e1,by
   subst e2;replace e3:=e3.symm;subst e3
   cases b' with
   | false=>rw [if_neg (by decide)];exact kN (h.2 rfl) (by simpa using q)
   | true=>rw [if_pos rfl];simpa using q⟩)
 | [],_::_,_,h,_=>h.elim
 | _::_,[],_,h,_=>h.elim
theorem zJ {es:List Expr} {bs:List Bool} {pos:Pos} {Q:Bool->Sto->Prop} (h:i9 c n env own ρ σ es bs) (q:Q (bs.all id) σ):WB c n env own (.BoolOp .And es pos) Q ρ σ:=rW (nU h q)
theorem vz {es:List Expr} {bs:List Bool} {pos:Pos} {Q:Bool->Sto->Prop} (h:ia c n env own ρ σ es bs) (q:Q (bs.any id) σ):WB c n env own (.BoolOp .Or es pos) Q ρ σ:=rW (kN h q)
noncomputable def hU (c:Cx) (n:Nat) (env:Env) (own:List Addr) (ρ:Loc) (σ:Sto):List Expr->List Bool->Prop
 | [],[]=>True
 | e::es,b::bs=>IsV c n env own e b ρ σ/\(b=true->hU c n env own ρ σ es bs)
 | _,_=>False
noncomputable def hV (c:Cx) (n:Nat) (env:Env) (own:List Addr) (ρ:Loc) (σ:Sto):List Expr->List Bool->Prop
 | [],[]=>True
 | e::es,b::bs=>IsV c n env own e b ρ σ/\(b=false->hV c n env own ρ σ es bs)
 | _,_=>False
theorem uU:∀ {es:List Expr} {bs:List Bool} {pos:Pos} {Q:CV->Sto->Prop},es≠[]->hU c n env own ρ σ es bs->Q (.bool (bs.all id)) σ->WE c n env own (.BoolOp .And es pos) Q ρ σ
 | [e],[b],pos,Q,_,h,q=>mP (W.mono h.1 fun v ρ' σ' q261=>zh q261 fun e1 e2 e3=>⟨e1,by subst e2;replace e3:=e3.symm;subst e3;simpa using q⟩)
 | e::e'::es,b::b2::bs,pos,Q,_,h,q=>qn (W.mono h.1 fun v ρ' σ' q262=>zh q262 fun e1 e2 e3=>⟨e1,(z0 b e2 (by
   replace e3:=e3.symm;subst e3
   cases b with
   | true=>rw [if_pos rfl];exact uU (by simp) (h.2 rfl) (by simpa using q)
   | false=>rw [if_neg (by decide)];simpa using q))⟩)
 | [],_,_,_,hn,_,_=>absurd rfl hn
 | [_],[],_,_,_,h,_=>h.elim
 | [e],b::b'::bs,_,_,_,h,q=>mP (W.mono h.1 fun v ρ' σ' q263=>zh q263 fun e1 e2 e3=>⟨e1,by
   replace e3:=e3.symm;subst e3;subst e2
   cases b with
   | true=>exact (h.2 rfl).elim
   | false=>simpa using q⟩)
 | _::_::_,[],_,_,_,h,_=>h.elim
 | e::e'::es,[b],_,Q,_,h,q=>qn (W.mono h.1 fun v ρ' σ' q264=>zh q264 fun e1 e2 e3=>⟨e1,(z0 b e2 (by
   replace e3:=e3.symm;subst e3
   cases b with
   | true=>exact (h.2 rfl).elim
   | false=>rw [if_neg (by decide)];simpa using q))⟩)
theorem hW:∀ {es:List Expr} {bs:List Bool} {pos:Pos} {Q:CV->Sto->Prop},es≠[]->hV c n env own ρ σ es bs->Q (.bool (bs.any id)) σ->WE c n env own (.BoolOp .Or es pos) Q ρ σ
 | [e],[b],pos,Q,_,h,q=>mP (W.mono h.1 fun v ρ' σ' q265=>zh q265 fun e1 e2 e3=>⟨e1,by subst e2;replace e3:=e3.symm;subst e3;simpa using q⟩)
 | e::e'::es,b::b2::bs,pos,Q,_,h,q=>hO (W.mono h.1 fun v ρ' σ' q266=>zh q266 fun e1 e2 e3=>⟨e1,(z0 b e2 (by
   replace e3:=e3.symm;subst e3
   cases b with
   | false=>rw [if_neg (by decide)];exact hW (by simp) (h.2 rfl) (by simpa using q)
   | true=>rw [if_pos rfl];simpa using q))⟩)
 | [],_,_,_,hn,_,_=>absurd rfl hn
 | [_],[],_,_,_,h,_=>h.elim
 | [e],b::b'::bs,_,_,_,h,q=>mP (W.mono h.1 fun v ρ' σ' q267=>zh q267 fun e1 e2 e3=>⟨e1,by
   replace e3:=e3.symm;subst e3;subst e2
   cases b with
   | false=>exact (h.2 rfl).elim
   | true=>simpa using q⟩)
 | _::_::_,[],_,_,_,h,_=>h.elim
 | e::e'::es,[b],_,Q,_,h,q=>hO (W.mono h.1 fun v ρ' σ' q268=>zh q268 fun e1 e2 e3=>⟨e1,(z0 b e2 (by
   replace e3:=e3.symm;subst e3
   cases b with
   | false=>exact (h.2 rfl).elim
   | true=>rw [if_pos rfl];simpa using q))⟩)
theorem pT {t:Expr} {b o:List Stmt} {pos:Pos} {v:Bool} {Q:CF->Loc->Sto->Prop} (h:IsB c n env own t v ρ σ) (ht:v=true->WSS c n env own b Q ρ σ) (hf:v=false->WSS c n env own o Q ρ σ):WS c n env own (.If t b o pos) Q ρ σ :=
 jT (W.mono h fun b' ρ' σ' q269=>zh q269 fun e1 e2 e3=>⟨e1,by
  subst e2;replace e3:=e3.symm;subst e3
  cases b' with
  | true=>rw [if_pos rfl];exact ht rfl
  | false=>rw [if_neg (by decide)];exact hf rfl⟩)
end
section
variable {c:Cx} {n:Nat} {env:Env} {own:List Addr} {ρ:Loc} {σ:Sto}
theorem vA {t b o:Expr} {pos:Pos} {u:Bool} {v:CV} {Q:CV->Sto->Prop} (h:IsB c n env own t u ρ σ) (ht:u=true->WE c n env own b (fun v' σ'=>v'=v/\σ'=σ) ρ σ) (hf:u=false->WE c n env own o (fun v' σ'=>v'=v/\σ'=σ) ρ σ) (q:Q v σ):WE c n env own (.IfExp t b o pos) Q ρ σ :=
 nK (W.mono h fun b' ρ' σ' q270=>zh q270 fun e1 e2 e3=>⟨e1,by
  subst e2;replace e3:=e3.symm;subst e3
  cases b' with
  | true=>rw [if_pos rfl];exact W.mono (ht rfl) fun _ _ _ q271=>zh q271 fun a b d=>⟨a,by subst b;replace d:=d.symm;subst d;exact q⟩
  | false=>rw [if_neg (by decide)];exact W.mono (hf rfl) fun _ _ _ q272=>zh q272 fun a b d=>⟨a,by subst b;replace d:=d.symm;subst d;exact q⟩⟩)
end

section
variable {c:Cx} {n:Nat} {env:Env} {own:List Addr} {ρ:Loc} {σ:Sto} {Q:CV->Sto->Prop}
noncomputable def sY (c:Cx) (a:Addr) (xs:List CV):Prop:=∃ items,c.base.PlainList a items/\VRs c.base xs items.toList/\xs.length<=100000
theorem SG.baseL {s:Shared} (G:SG c σ s) {a:Addr} {xs:List CV} (h:sY c a xs):∃ items,s.heap.PlainList a items/\VRs s.heap xs items.toList/\xs.length<=100000 :=
 let ⟨items,P,V,l⟩:=h
 (zt items (P.at fun o e=>G.base _ o e) (V.mono fun b its q291=>yl q291 fun k e=>⟨k,G.base _ _ e⟩) l)
theorem mX {value:Expr} {lower upper:Option Expr} {p pos:Pos}
  (h:WE c n env own value (fun o σ₁=>WP c n env own lower (fun lo σ₂=>WP c n env own upper (fun hi σ₃=>∃ a xs,o=.ref a/\sY c a xs/\∀ d,σ₃ d=none->Q (.ref d) (upd σ₃ d (.list (csl xs lo hi)))) ρ σ₂) ρ σ₁) ρ σ) :
  WE c n env own (.Subscript value (.Slice lower upper none p) pos) Q ρ σ :=
 .mk fun A s hR G F=>by
  refine Subscript_ (h.on0 hR G F (fun o s₁ co σ₁ ro G1 F₁ K1 h₁=>?_))
  refine wpAny_Slice (h₁.on0 hR G1 F₁ (fun vl s₂ lo σ₂ rl G2 F₂ K2 h₂=>?_))
  refine h₂.on0 hR G2 F₂ (fun vu s₃ hi σ₃ ru G3 F3 K3 h₃=>?_)
  rw [evalPart_none]
  refine wpAny_pure ?_
  refine zg (h₃) ?_;intro a xs e ha hq
  subst e
  obtain rfl:=zO ro
  refine zm (G3.baseL ha) ?_;intro items P V hl
  have esz:items.size=xs.length:=by have:=V.length;rw [← this];simp
  refine vq (ops:=[]) P.isList rl ru .none (by simp) (by rw [esz,sizeLine_eq];exact o14 _ hl) (fun _ _=>rfl) ?_
  have hpick:(slicePick items lo hi none).toList=csl items.toList lo hi:=by rw [slicePick_plain];simp [csl]
  have hv:VRs s₃.heap (csl xs lo hi) (slicePick items lo hi none).toList:=by
   rw [hpick]
   unfold csl
   have e2:items.toList.length=xs.length:=V.length
   rw [e2]
   exact (V.drop _).take _
  have hlen:(csl xs lo hi).length<=100000:=by
   unfold csl
   have:=List.length_take_le (hi.elim xs.length (clipAt xs.length)-lo.elim 0 (clipAt xs.length)) (xs.drop (lo.elim 0 (clipAt xs.length)))
   have h2:(xs.drop (lo.elim 0 (clipAt xs.length))).length<=xs.length:=by rw [List.length_drop];exact o15 _ _
   have h3:=List.length_take_le' (hi.elim xs.length (clipAt xs.length)-lo.elim 0 (clipAt xs.length)) (xs.drop (lo.elim 0 (clipAt xs.length)))
   exact o16 _ _ _ h3 h2 hl
  have hplain:((s₃.heap.push { cls:=.type "slice",data:=.fields #[vl,vu,.none] }).push { cls:=.type "list",data:=.seq (slicePick items lo hi none) }).PlainList (s₃.heap.objs.size+1) (slicePick items lo hi none):=⟨0,by
   have:=Heap.get?_push_size (s₃.heap.push { cls:=.type "slice",data:=.fields #[vl,vu,.none] }) (o:={ cls:=.type "list",data:=.seq (slicePick items lo hi none) }) rfl
   rwa [Heap.size_push] at this⟩
  obtain ⟨d,σ₄,r₄,G4,K4,q₄⟩:=PG.newList (t:=s₃.toks) (Q:=Q) G3 (Nat.le_succ _) (fun b o e=>zl _ _ b o (zl _ _ b o e)) hplain hv hlen hq
  exact ⟨d,ρ,σ₄,r₄,G4,F3.step (G3.stay K4) K4,((K1.trans K2).trans K3).trans (K4.own (by simp)),rfl,q₄⟩
end

section
variable {c:Cx} {n:Nat} {env:Env} {own:List Addr} {ρ:Loc} {σ:Sto}
noncomputable def sZ (c:Cx) (n:Nat) (E:Env) (C:Addr) (tgt tgt' iter' elt:Expr) (fv:Loc) (x:CV) (ys:List CV) (N:List CV->Sto->Prop) (σ':Sto):Prop :=
 WA c n E [C] tgt x (fun ρ2 σ₂=>Subs ρ2 fv/\WIt c n E [C] tgt' iter' (fun xs2 src2 σ₃=>∃ J2:List CV->List CV->Sto->Prop,J2 xs2 ys σ₃/\∀ xs2 ys2 σ₄,J2 xs2 ys2 σ₄->src2 σ₄/\match xs2 with
  | []=>N ys2 σ₄
  | x2::r2=>WA c n E [C] tgt' x2 (fun ρ5 σ₅=>Subs ρ5 fv/\ys2.length<100000/\WE c n E [C] elt (fun v σ₆=>J2 r2 (ys2++[v]) σ₆) ρ5 σ₅) fv σ₄) ρ2 σ₂) fv σ'
noncomputable abbrev uV (elt tgt iter tgt' iter':Expr) (scope:Scope) (pos:Pos) (cl:List (Str × Addr)) (env:Env):Addr->Addr->Sem Fin->Sem Fin:=fun C D t =>
 eval iter' (compEnvC scope cl C env) >>= fun x=>standAt iter'.pos >>= fun _=>foldedSetIterable iter' (compEnvC scope cl C env) x >>= fun x=>holding [x] (pyIter x) >>= fun it'=>runOwn (.compStart (.ListComp elt [⟨tgt,iter,[],0⟩,⟨tgt',iter',[],0⟩] scope pos) 1 it' (.ref D) (compEnvC scope cl C env)) (compEnvC scope cl C env) >>= fun _=>t
theorem uh {fv:Loc} (h:∀ e∈fv,ρ.lookup e.1=some e.2):Subs fv fv:=by
 have a:∀ (l r:Loc),(∀ e∈r,l.lookup e.1=some e.2)->Subs l r:=by
  intro l r
  induction r with
  | nil=>intro _;trivial
  | cons a r ih=>intro h;exact ⟨h a (by simp),ih fun e he=>h e (by simp [he])⟩
 refine a _ _ ?_
 have b:∀ (l:Loc),(∀ e∈l,ρ.lookup e.1=some e.2)->∀ e∈l,l.lookup e.1=some e.2:=by
  intro l
  induction l with
  | nil=>intro _ e he;cases he
  | cons a r ih =>
   intro h e he
   obtain ⟨k,d⟩:=a
   rw [List.lookup_cons]
   cases q:e.1==k with
   | true =>
    obtain rfl:=eq_of_beq q
    have h1:=h (e.1,d) (by simp)
    have h2:=h e he
    rw [h1] at h2;exact h2
   | false =>
    rcases List.mem_cons.mp he with rfl | he
    ·simp at q
    ·exact ih (fun e he=>h e (by simp [he])) e he
 exact b fv h
theorem ui {k:CC} {ys:List CV} {ρ':Loc} (KO:COff c k) {elt tgt iter tgt' iter':Expr} {scope:Scope} {pos:Pos} {cl:List (Str × Addr)} {fv:Loc} {x:CV} {N:List CV->Sto->Prop} {P:List CV->Loc->Sto->Prop} (hk1:k.env=env) (hk3:k.cenv=compEnvC scope cl k.C env)
  (hs':∀ C x,foldedSetIterable iter' (compEnvC scope cl C env) x=pure x) (hsub:Subs ρ' fv) (h:sZ c n (compEnvC scope cl k.C env) k.C tgt tgt' iter' elt fv x ys N σ) :
  WA c n k.cenv [k.C] tgt x (fun ρ2 σ₂=>WF c n k.cenv [k.C] [] (fun b σ₃=>if b=true then WK c n k (uV elt tgt iter tgt' iter' scope pos cl env k.C k.D) (fun ys' ρ4 σ₄=>Subs ρ4 fv/\N ys' σ₄) ys ρ2 σ₃ else P ys ρ2 σ₃) ρ2 σ₂) ρ' σ:=by
 unfold sZ at h
 rw [← hk3] at h
 refine tY hsub (xq h fun ρ2 σ₂ q292=>zY q292 fun hs2 hw=>vt ?_)
 rw [if_pos rfl]
 refine kA (p:=iter'.pos) (gens:=[⟨tgt,iter,[],0⟩,⟨tgt',iter',[],0⟩]) (ifs':=[]) (act':=fun t=>(do let _ ← call (.builtin "list.append") [.ref k.D,← eval elt k.cenv]) >>= fun _=>t) KO (fun t=>by rw [hk3]) (fun x=>by rw [hk3];exact hs' _ _) rfl (fun it=>⟨iter'.pos,kz ..⟩) ?_
 refine yS hw fun xs2 src2 σ₃ _ q293=>za q293 fun J2 hJ2 step=>(z0 (fun xs ys ρ σ=>Subs ρ fv/\J2 xs ys σ) (⟨hs2,hJ2⟩) (fun xs2 ys2 ρ3 σ₄ q294=>zY q294 fun s3 hj=>?_))
 obtain ⟨q1,q2⟩:=step xs2 ys2 σ₄ hj
 refine ⟨q1,?_⟩
 cases xs2 with
 | nil=>exact ⟨s3,q2⟩
 | cons x2 r2 =>
  refine tY s3 (xq q2 fun ρ5 σ₅ q295=>zh q295 fun s5 hl he=>vt ?_)
  rw [if_pos rfl]
  exact (nP (Q:=fun ys' ρ4 σ₄=>Subs ρ4 fv/\J2 r2 ys' σ₄) KO (W.mono he fun v ρ6 σ₆ q296=>zY q296 fun e1 e2=>⟨e1,s5,e2⟩) hl).toK
theorem kP {elt tgt iter tgt' iter':Expr} {scope:Scope} {pos:Pos} {cl:List (Str × Addr)} {fv:Loc} {Q:CV->Sto->Prop}
  (ok:CompOk env ρ scope cl fv) (hs:∀ x,foldedSetIterable iter env x=pure x) (hs':∀ C x,foldedSetIterable iter' (compEnvC scope cl C env) x=pure x)
  (h:WIt c n env own tgt iter (fun xs src σ₁=>∃ J:List CV->List CV->Sto->Prop,J xs [] σ₁/\∀ C xs ys σ',J xs ys σ'->src σ'/\match xs with
   | []=>ys.length<=100000/\∀ d,σ' d=none->Q (.ref d) (upd σ' d (.list ys))
   | x::r=>sZ c n (compEnvC scope cl C env) C tgt tgt' iter' elt fv x ys (J r) σ') ρ σ) :
  WE c n env own (.ListComp elt [⟨tgt,iter,[],0⟩,⟨tgt',iter',[],0⟩] scope pos) Q ρ σ:=by
 refine kB (act:=uV elt tgt iter tgt' iter' scope pos cl env) ok hs (fun C D it=>⟨iter.pos,nO ..⟩) (yS h fun xs src σ₁ _ q297=>za q297 fun J hJ step=>(z0 (fun xs ys ρ' σ'=>Subs ρ' fv/\J xs ys σ') (⟨uh fun e he=>(ok.fv e he).1,hJ⟩) (fun k hk1 hk2 hk3 KO xs ys ρ' σ' hj=>?_)))
 obtain ⟨hsub,hj⟩:=hj
 obtain ⟨h1,h2⟩:=step k.C xs ys σ' hj
 refine ⟨h1,?_⟩
 cases xs with
 | nil=>exact h2
 | cons x r=>exact ui (N:=J r) (P:=fun ys ρ σ=>Subs ρ fv/\J r ys σ) (iter:=iter) (pos:=pos) KO hk1 hk3 hs' hsub h2
theorem vB {elt tgt iter tgt' iter':Expr} {y:Str} {py spos:Pos} {scope:Scope} {pos:Pos} {cl:List (Str × Addr)} {fv:Loc} {Q:CF->Loc->Sto->Prop}
  (hsw:swapsWith (.ListComp elt [⟨tgt,iter,[],0⟩,⟨tgt',iter',[],0⟩] scope pos) (some (.Name y py)) spos.line env=pure true)
  (ok:CompOk env ρ scope cl fv) (hs:∀ x,foldedSetIterable iter env x=pure x) (hs':∀ C x,foldedSetIterable iter' (compEnvC scope cl C env) x=pure x)
  (h:WIt c n env own tgt iter (fun xs src σ₁=>∃ J:List CV->List CV->Sto->Prop,J xs [] σ₁/\∀ C xs ys σ',J xs ys σ'->src σ'/\match xs with
   | []=>ys.length<=100000/\∀ d,σ' d=none->WA c n env own (.Name y py) (.ref d) (fun ρ2 σ₂=>Q .next ρ2 σ₂) ρ (upd σ' d (.list ys))
   | x::r=>sZ c n (compEnvC scope cl C env) C tgt tgt' iter' elt fv x ys (J r) σ') ρ σ) :
  WS c n env own (.Assign [.Name y py] (.ListComp elt [⟨tgt,iter,[],0⟩,⟨tgt',iter',[],0⟩] scope pos) spos) Q ρ σ:=by
 refine xS (act:=uV elt tgt iter tgt' iter' scope pos cl env) hsw ok hs (fun C D it=>⟨iter.pos,nO ..⟩) (yS h fun xs src σ₁ _ q298=>za q298 fun J hJ step=>(z0 (fun xs ys ρ' σ'=>Subs ρ' fv/\J xs ys σ') (⟨uh fun e he=>(ok.fv e he).1,hJ⟩) (fun k hk1 hk2 hk3 KO xs ys ρ' σ' hj=>?_)))
 obtain ⟨hsub,hj⟩:=hj
 obtain ⟨h1,h2⟩:=step k.C xs ys σ' hj
 refine ⟨h1,?_⟩
 cases xs with
 | nil=>exact h2
 | cons x r=>exact ui (N:=J r) (P:=fun ys ρ σ=>Subs ρ fv/\J r ys σ) (iter:=iter) (pos:=pos) KO hk1 hk3 hs' hsub h2
end

section
variable {c:Cx} {n:Nat} {env:Env} {own:List Addr} {ρ:Loc} {σ:Sto}
noncomputable def emp:Sto:=fun _=>none
theorem SG.emp {s:Shared} (G:SG c σ s) {s':Shared} (hk:∀ b o,s.heap.get? b=some o->s'.heap.get? b=some o) (hg:s'.gens=#[]) (ho:s'.os=c.os):SG c emp s' :=
 ⟨fun b o e=>hk b o (G.base b o e),(fun _ _ e=>nomatch e),(fun _ _ e=>nomatch e),(fun _ _ e=>nomatch e),hg,ho⟩
theorem SG.emp' {s:Shared} (G:SG c Mine.emp s) {s':Shared} (hk:∀ b o,c.base.get? b=some o->s.heap.get? b=some o->s'.heap.get? b=some o) (hg:s'.gens=s.gens) (ho:s'.os=s.os):SG c Mine.emp s' :=
 ⟨fun b o e=>hk b o e (G.base b o e),(fun _ _ e=>nomatch e),(fun _ _ e=>nomatch e),(fun _ _ e=>nomatch e),hg.trans G.gens,ho.trans G.os⟩
theorem fr0 {scope:Scope} {C:Addr} {h:Heap} {m:Str->Option Value} (hk:scope.kind=.function) (hg:env.globals=mainGlobals) (hb:env.builtins=builtinsNs) (hn:h.Ns C m) (hbase:c.base.get? C=none):FR c (compEnvC scope [] C env) [C] [] emp h:=by
 refine ⟨hk,hg,hb,(z0 m hn (fun x cv a=>by simp at a)),fun x cv a=>by simp at a,fun x a e=>?_,fun x y a e=>?_,List.mem_singleton.mpr rfl,fun a ha=>?_⟩
 ·have:(List.lookup x ([]:List (Str × Addr)))=some a:=e
  simp at this
 ·have:(List.lookup x ([]:List (Str × Addr)))=some a:=e
  simp at this
 ·rw [List.mem_singleton] at ha;subst ha
  refine ym (hn) ?_;intro o es ep hoo hd _
  exact ⟨rfl,hbase,(z0 o hoo (fun its k z=>by rw [hd] at z;cases z))⟩
noncomputable def PrsAt (h:Heap) (N:Nat):List (Int × Int)->List Value->Prop
 | [],vs=>vs=[]
 | q::qs,vs=>∃ t u w r,vs=.ref t::r/\N<t/\pt h t #[.int q.1 u,.int q.2 w]/\PrsAt h N qs r
theorem PrsAt.mono {h h':Heap} {N:Nat} (k:∀ b o,N<b->h.get? b=some o->h'.get? b=some o):∀ {qs:List (Int × Int)} {vs:List Value},PrsAt h N qs vs->PrsAt h' N qs vs
 | [],vs,x=>x
 | q::qs,vs,x=>by
  refine tM (x) ?_;intro t u w r e ht q273 y;obtain ⟨m,hx⟩:=q273
  exact (rR t u w r e ht (⟨m,k _ _ ht hx⟩) (PrsAt.mono k y))
theorem PrsAt.snoc {h:Heap} {N:Nat} {q:Int × Int} {t:Addr} {u w:Tok} (ht:N<t) (hx:pt h t #[.int q.1 u,.int q.2 w]):∀ {qs:List (Int × Int)} {vs:List Value},PrsAt h N qs vs->PrsAt h N (qs++[q]) (vs++[.ref t])
 | [],vs,x=>by obtain rfl:=x;exact (rR t u w ([]) rfl ht hx rfl)
 | q'::qs,vs,x=>by
  refine tM (x) ?_;intro t' u' w' r q274 ht' hx' y;obtain rfl:=q274
  exact (rR t' u' w' (r++[.ref t]) rfl ht' hx' (PrsAt.snoc ht hx y))
theorem PrsAt.vrs {h:Heap} {N:Nat}:∀ {qs:List (Int × Int)} {vs:List Value},PrsAt h N qs vs->VRs h (qs.map fun q=>CV.tup [.int q.1,.int q.2]) vs
 | [],vs,x=>by obtain rfl:=x;exact .nil
 | q::qs,vs,x=>by
  refine tM (x) ?_;intro t u w r q275 ht hx y;obtain rfl:=q275
  refine .cons ?_ (PrsAt.vrs y)
  exact (zj t _ rfl hx (.cons isInt (.cons isInt .nil)))
theorem PrsAt.length {h:Heap} {N:Nat}:∀ {qs:List (Int × Int)} {vs:List Value},PrsAt h N qs vs->vs.length=qs.length
 | [],vs,x=>by obtain rfl:=x;rfl
 | q::qs,vs,x=>by
  refine tM (x) ?_;intro t u w r q276 ht hx y;obtain rfl:=q276
  simp [PrsAt.length y]
theorem s6 {h:Heap} {xs:List Int} {vs:List Value} (V:VRs h (xs.map .int) vs) {j:Nat} {x:Int} (e:xs[j]?=some x):∃ t,vs[j]?=some (.int x t):=by
 refine za (V.get (i:=j) (c:=.int x) (by rw [List.getElem?_map,e];rfl)) ?_;intro v hv r
 obtain ⟨t,rfl⟩:=zz r
 exact ⟨t,hv⟩
noncomputable def pU (c:Cx) (n:Nat) (env:Env) (tgt ea eb:Expr) (ifs:List Expr) (scope:Scope) (pos:Pos) (p:Int->Int->Bool) (i j:Int):Prop :=
 ∀ C,WA c n (compEnvC scope [] C env) [C] tgt (.tup [.int i,.int j]) (fun ρ2 σ₂=>σ₂=emp/\WF c n (compEnvC scope [] C env) [C] ifs (fun b σ₃=>σ₃=emp/\b=p i j /\
  (b=true->WAs c n (compEnvC scope [] C env) [C] pos [ea,eb] (fun vs σ₄=>vs=[.int i,.int j]/\σ₄=emp) ρ2 emp)) ρ2 emp) [] emp
theorem pV {e1 e2 ea eb:Expr} {elts:List Expr} {tk ke:Nat} {tp pe:Pos} {ifs:List Expr} {scope:Scope} {pos pz zp:Pos} {Q:CV->Sto->Prop} (p:Int->Int->Bool)
  (ok:CompOk env ρ scope [] []) (hs:∀ x,foldedSetIterable (.Call (.Name "zip" pz) [e1,e2] [] zp) env x=pure x)
  (hkd:env.kindOf "zip" = some .globalImplicit) (hn:nsIn c.K mainGlobals "zip" = some none) (hplain:(backTo zp (starEach [e1,e2] env)).any (·.1)=false) (he:starEach [e1,e2] env=(false,eval e1 env)::starEach [e2] env)
  (h:WAs c n env own zp [e1,e2] (fun vs σ₁=>∃ (l1 l2:Addr) (xs ys:List Int),vs=[.ref l1,.ref l2]/\σ₁ l1=some (.list (xs.map .int))/\σ₁ l2=some (.list (ys.map .int))/\xs.length<=1000 /\
   (∀ q∈xs.zip ys,pU c n env (.Tuple elts tk tp) ea eb ifs scope pe p q.1 q.2) /\
   ∀ d,σ₁ d=none->Q (.ref d) (upd σ₁ d (.list (((xs.zip ys).filter fun q=>p q.1 q.2).map fun q=>CV.tup [.int q.1,.int q.2])))) ρ σ) :
  WE c n env own (.ListComp (.Tuple [ea,eb] ke pe) [⟨.Tuple elts tk tp,.Call (.Name "zip" pz) [e1,e2] [] zp,ifs,0⟩] scope pos) Q ρ σ :=
 .mk fun A s hR G F=>by
  show wpAny _ A (eval (.ListComp (.Tuple [ea,eb] ke pe) [⟨.Tuple elts tk tp,.Call (.Name "zip" pz) [e1,e2] [] zp,ifs,0⟩] scope pos) env) _ _ s
  rw [eval_ListComp]
  refine wpAny_comprehension_free (use:=none) rfl hs ok.clos ok.kind ok.names ?_
  refine wpAny_Call_NameR (zy G F hkd hn (v:=.type "zip") rfl (by decide) (yP yG hplain he h hR G F fun vals vs s₁ σ₁ G1 F₁ K1 V hq=>?_) (by decide))
  refine rS (hq) ?_;intro l1 l2 xs ys ev hl1 hl2 hbd hbody q
  subst ev
  refine zg (V.inv) ?_;rintro v r rfl hv V
  refine zg (V.inv) ?_;rintro w r rfl hw V
  obtain rfl:=VRs.nil_iff.mp V
  obtain rfl:=zO hv
  obtain rfl:=zO hw
  refine zm (G1.list hl1) ?_;intro it1 P1 V1 _
  refine zm (G1.list hl2) ?_;intro it2 P2 V2 _
  refine call_zip_2 P1.isList P2.isList fun h₀ hz hTI hTO hi1 hi2 hsz hk=>?_
  refine wpAny_pyIter_zip hz ?_
  refine wpAny_newObj_type (wpAny_newFunctionEnv ok.cell (by intro y hy;simp at hy) (fun h₁ hns1 hsb1=>?_) ok.kind)
  dsimp only at hns1 hsb1 ⊢
  generalize hH2:h₀.push { cls:=.type "list",dict:=none,data:=.seq ([]:List Value).toArray }=H2 at hns1 hsb1 ⊢
  have hC:H2.objs.size=s₁.heap.objs.size+6:=by rw [← hH2,Heap.size_push,hsz]
  have Dz:=zipApart_new (n:=s₁.heap.objs.size) (Heap.lt_size P1.isList.choose_spec.1) (Heap.lt_size P2.isList.choose_spec.1)
  generalize hN:s₁.heap.objs.size=N at *
  have bel:∀ (b:Nat) o,h₀.get? b=some o->@LT.lt Nat _ b (N+5):=fun b o e=>by have:=Heap.lt_size e;rw [hsz] at this;exact this
  have old:∀ b o,h₀.get? b=some o->h₁.get? b=some o:=fun b o e=>hsb1.extBut b o (by rw [hC];exact Nat.ne_of_lt (by have:=bel b o e;exact o71 _ _ this)) (Heap.get?_push_of_some _ (hH2 ▸ Heap.get?_push_of_some _ e))
  have hacc:h₁.PlainList h₀.objs.size #[]:=⟨_,hsb1.extBut _ _ (by rw [hC,hsz];exact Nat.ne_of_lt (Nat.lt_succ_self _)) (Heap.get?_push_of_some _ (hH2 ▸ Heap.get?_push_size _ rfl))⟩
  have hbase:c.base.get? H2.objs.size=none:=by
   cases e:c.base.get? H2.objs.size with
   | none=>rfl
   | some o=>have:=Heap.lt_size (G1.base _ _ e);rw [hC,hN] at this;exact absurd this (Nat.not_lt.mpr (Nat.le_add_right _ _))
  have low1:∀ b o,s₁.heap.get? b=some o->b<N:=fun b o e=>by have:=Heap.lt_size e;rw [hN] at this;exact this
  generalize hHC:H2.objs.size=C at *
  subst hC
  rw [hsz] at hacc ⊢
  let Inv:Nat->Shared->Prop:=fun kk s'=>∃ j items m,kk=(xs.zip ys).length-j+1/\j<=(xs.zip ys).length/\SG c emp s'/\s'.heap.Ns (N+6) m/\(∀ b o,s₁.heap.get? b=some o->s'.heap.get? b=some o) /\
   IsZip s'.heap (N+4) (N+2) (N+3) .none/\IsPair s'.heap (N+2) (.ref N) (.ref (N+1))/\(∃ a b,IsPair s'.heap (N+3) a b)/\s'.heap.IsListIter N l1 j/\s'.heap.IsListIter (N+1) l2 j /\
   s'.heap.PlainList (N+5) items/\PrsAt s'.heap (N+6) (((xs.zip ys).take j).filter fun q=>p q.1 q.2) items.toList
  have loop:∀ s₃:Shared,s₃={ s₁ with heap:=h₁,toks:=s₁.toks+([]:List (Str × Value)).length } ->
    codeAny (model c.prog c.w) A (.compLoop (.ListComp (.Tuple [ea,eb] ke pe) [⟨.Tuple elts tk tp,.Call (.Name "zip" pz) [e1,e2] [] zp,ifs,0⟩] scope pos) 0 (.ref (N+4)) (.ref (N+5)) (compEnvC scope [] (N+6) env))
     (compPost (model c.prog c.w) A Ef none (PE c env own VR (fun v ρ' σ'=>ρ'=ρ/\Q v σ') σ s) (.ref (N+5)) (N+6)) s₃:=by
   rintro s₃ rfl
   refine codeAny_loop rfl Inv (fun kk s' hI'=>?_) ((xs.zip ys).length-0+1) (rQ 0 (#[]) _ rfl (Nat.zero_le _) (G1.emp (fun b o e=>old b o (hk b o e)) G1.gens G1.os) hns1 (fun b o e=>old b o (hk b o e)) (old _ _ hz) (old _ _ hTI) ((zZ _ _ (old _ _ hTO))) (hi1.at fun o e=>old _ o e) (hi2.at fun o e=>old _ o e) hacc rfl)
   refine mB (hI') ?_;intro j items m q280 hj Ge hns hold hz' hTI' q281 hi1' hi2' hD' hprs;obtain rfl:=q280;refine zL (q281) ?_;intro ta tb hTO'
   obtain ⟨pp,heq⟩:=vw (elt:=.Tuple [ea,eb] ke pe) (tgt:=.Tuple elts tk tp) (iter:=.Call (.Name "zip" pz) [e1,e2] [] zp) (ifs:=ifs) (scope:=scope) (pos:=pos) (cl:=[]) (env:=env) (N+6) (N+5) (.ref (N+4))
   show wpAny _ A ((compTurn (.ListComp (.Tuple [ea,eb] ke pe) [⟨.Tuple elts tk tp,.Call (.Name "zip" pz) [e1,e2] [] zp,ifs,0⟩] scope pos) 0 (.ref (N+4)) (.ref (N+5)) (compEnvC scope [] (N+6) env)).onRaise (fun x=>do noteFrame x (compEnvC scope [] (N+6) env);theTreesLotGoes x)) _ _ s'
   refine wpAny_noted ?_
   rw [heq]
   refine wpAny_bind (wpAny_standAt (wpAny_bind ?_))
   have L1:s'.heap.IsList l1 it1:=P1.isList.at fun o e=>hold _ o e
   have L2:s'.heap.IsList l2 it2:=P2.isList.at fun o e=>hold _ o e
   by_cases hjl:j<(xs.zip ys).length
   ·obtain ⟨e1',e2'⟩:=List.getElem?_zip_eq_some.mp (List.getElem?_eq_getElem hjl)
    have hqm:=List.getElem_mem hjl
    have htake:(xs.zip ys).take (j+1)=(xs.zip ys).take j++[(xs.zip ys)[j]]:=List.take_succ_eq_append_getElem hjl
    generalize (xs.zip ys)[j]=q0 at *
    obtain ⟨u,hu⟩:=s6 V1 e1'
    obtain ⟨w,hw⟩:=s6 V2 e2'
    refine wpAny_pyNext_zip_item Dz hz' hTI' hTO' hi1' hi2' L1 L2 (x:=.int q0.1 u) (y:=.int q0.2 w) (by simpa using hu) (by simpa using hw) fun h₂ hz2 hTO2 hi12 hi22 hT2 hsz2 hk₂=>?_
    refine wpAny_bind (wpAny_letOwnedTupleGo_zip hz2 fun h₃ hz3 hs₃=>?_)
    have hCs:@LT.lt Nat _ (N+6) s'.heap.objs.size:=hns.lt
    have k3:∀ (b:Nat) o,(@LT.lt Nat _ (N+4) b∨@LT.lt Nat _ b N∨b=N+2)->s'.heap.get? b=some o->h₃.get? b=some o:=fun b o hb e =>
     hs₃.extBut b o (by intro z;have z':(b:Nat)=N+4:=z;exact o72 _ _ hb z') (hk₂ b o (by intro z;have z':(b:Nat)=N+4:=z;exact o72 _ _ hb z') (by intro z;have z':(b:Nat)=N+3:=z;exact o73 _ _ hb z') (by intro z;have z':(b:Nat)=N:=z;exact o74 _ _ hb z') (by intro z;have z':(b:Nat)=N+1:=z;exact o75 _ _ hb z') e)
    have G3:SG c emp { s' with heap:=h₃ }:=Ge.emp' (fun b o e e2=>k3 b o (.inr (.inl (low1 b o (G1.base b o e)))) e2) rfl rfl
    have F3:FR c (compEnvC scope [] (N+6) env) [N+6] [] emp h₃:=fr0 ok.kind F.glob F.built (hns.at fun o e=>k3 _ o (.inl (o76 _)) e) hbase
    have V3:VR h₃ (.tup [.int q0.1,.int q0.2]) (.ref s'.heap.objs.size):=by
     exact (zj _ _ rfl (⟨0,hs₃.extBut _ _ (Nat.ne_of_gt (o77 _ _ hCs)) hT2⟩) (.cons isInt (.cons isInt .nil)))
    refine wpAny_bind (wgo ((hbody q0 hqm (N+6)).go A { s' with heap:=h₃ } (.ref s'.heap.objs.size) hR G3 F3 V3) (fun _ s₄ _ ρ4 σ₄ _ G4 F4 K4 q1=>?_))
    refine zY q1 ?_;intro e₄ hwf;subst e₄
    refine wpAny_bind (hwf.on0 hR G4 F4 (fun okb s₅ b σ₅ rb G5 F5 K5 q2=>?_))
    refine zh q2 ?_;intro e5' eb hel
    subst e5'
    unfold BR at rb;subst rb
    have k5:∀ (b:Nat) o,b≠N+6->h₃.get? b=some o->s₅.heap.get? b=some o:=fun b o hb e=>(K5 b o (K4 b o e rfl (by simpa using hb)).1 rfl (by simpa using hb)).1
    have stay:∀ (s₆:Shared) items' ,SG c emp s₆->(∃ m,s₆.heap.Ns (N+6) m)->(∀ (b:Nat) o,b≠N+6->b≠N+5->s₅.heap.get? b=some o->s₆.heap.get? b=some o)->s₆.heap.PlainList (N+5) items' ->
      PrsAt s₆.heap (N+6) (((xs.zip ys).take (j+1)).filter fun q=>p q.1 q.2) items'.toList->∃ kk,kk<(xs.zip ys).length-j+1/\Inv kk s₆:=fun s₆ items' G6 q282 k6 hD6 hp6=>yl q282 fun m' hm'=>by
     have kk:∀ (b:Nat) o,b≠N+6->b≠N+5->h₃.get? b=some o->s₆.heap.get? b=some o:=fun b o h1 h2 e=>k6 b o h1 h2 (k5 b o h1 e)
     have ne:∀ a b:Nat,a<b->(N+a:Nat)≠N+b:=fun a b h=>by exact o78 _ _ _ h
     refine (z0 ((xs.zip ys).length-(j+1)+1) (o79 _ _ hjl) (rQ (j+1) items' m' rfl hjl G6 hm' (fun b o e=>?_) (?_) (?_) ((zZ (.int q0.1 u) (.int q0.2 w) (?_))) (?_) (?_) hD6 hp6))
     ·have hlt:@LT.lt Nat _ b N:=low1 b o e
      exact kk b o (o80 _ _ hlt) (o81 _ _ hlt) (k3 b o (.inr (.inl hlt)) (hold b o e))
     ·exact kk _ _ (ne 4 6 (by decide)) (ne 4 5 (by decide)) hz3
     ·exact kk _ _ (ne 2 6 (by decide)) (ne 2 5 (by decide)) (k3 _ _ (.inr (.inr rfl)) hTI')
     ·exact kk _ _ (ne 3 6 (by decide)) (ne 3 5 (by decide)) (hs₃.extBut _ _ (ne 3 4 (by decide)) hTO2)
     ·exact hi12.at fun o e=>kk _ o (ne 0 6 (by decide)) (ne 0 5 (by decide)) (hs₃.extBut _ _ (ne 0 4 (by decide)) e)
     ·exact hi22.at fun o e=>kk _ o (ne 1 6 (by decide)) (ne 1 5 (by decide)) (hs₃.extBut _ _ (ne 1 4 (by decide)) e)
    have hD5:s₅.heap.PlainList (N+5) items:=xo hD' fun o e=>k5 _ o (o82 _) (k3 _ o (.inl (o83 _)) e)
    have hns5:∃ m,s₅.heap.Ns (N+6) m:=za (F5.ns) fun m hm _=>⟨m,hm⟩
    have hprs5:PrsAt s₅.heap (N+6) (((xs.zip ys).take j).filter fun q=>p q.1 q.2) items.toList:=hprs.mono fun b o hb e=>by
     have hb':@LT.lt Nat _ (N+6) b:=hb
     exact k5 b o (o84 _ _ hb) (k3 b o (.inl (o77 _ _ hb)) e)
    cases hpq:p q0.1 q0.2 with
    | false =>
     rw [hpq] at eb;subst eb
     refine wpAny_pure ⟨rfl,stay s₅ items G5 hns5 (fun _ _ _ _ e=>e) hD5 ?_⟩
     rw [htake,List.filter_append]
     simpa [hpq] using hprs5
    | true =>
     rw [hpq] at eb;subst eb
     show wpAny _ A (wn (.Tuple [ea,eb] ke pe) scope [] env (N+6) (N+5) (again _)) _ _ s₅
     refine wpAny_bind (wpAny_bind (wpAny_Tuple ((hel rfl).on0 hR G5 F5 (fun vs s₆ g σ₆ r₆ G6 F6 K6 q3=>?_))))
     refine zY q3 ?_;intro ev e6'
     subst e6' ev
     refine zg (r₆.inv) ?_;rintro va r rfl ha r₆
     refine zg (r₆.inv) ?_;rintro vb r rfl hb r₆
     obtain rfl:=VRs.nil_iff.mp r₆
     obtain ⟨ua,rfl⟩:=zz ha
     obtain ⟨ub,rfl⟩:=zz hb
     have k6:∀ (b:Nat) o,b≠N+6->s₅.heap.get? b=some o->s₆.heap.get? b=some o:=fun b o hb e=>(K6 b o e rfl (by simpa using hb)).1
     have hns6:∃ m,s₆.heap.Ns (N+6) m:=za (F6.ns) fun m hm _=>⟨m,hm⟩
     have hD6:s₆.heap.PlainList (N+5) items:=xo hD5 fun o e=>k6 _ o (o82 _) e
     have hlt6:@LT.lt Nat _ (N+6) s₆.heap.objs.size:=hns6.choose_spec.lt
     have hD7:(s₆.heap.push { cls:=.type "tuple",data:=.seq [Value.int q0.1 ua,Value.int q0.2 ub].toArray }).PlainList (N+5) items:=xo hD6 fun o e=>zl _ _ _ o e
     have isz:items.size<=1000:=by
      have h1:=hprs.length
      have h2:(((xs.zip ys).take j).filter fun q=>p q.1 q.2).length<=(xs.zip ys).length:=Nat.le_trans (List.length_filter_le _ _) (List.length_take_le' _ _)
      have h3:(xs.zip ys).length<=xs.length:=by rw [List.length_zip];exact Nat.min_le_left _ _
      have h4:items.toList.length=items.size:=by simp
      exact o85 _ _ _ _ h1 h2 h3 hbd
     refine ⟨by rw [sizeLine_eq];exact Nat.le_trans (Nat.le_of_eq (by rfl:_=2)) (by decide),wpAny_bind (wpAny_list_append_plain hD7 (fun h₈ P8 hs8=>?_) (by rw [sizeLine_eq];exact o34 _ isz))⟩
     have k8:∀ (b:Nat) o,b≠N+5->(s₆.heap.push { cls:=.type "tuple",data:=.seq [Value.int q0.1 ua,Value.int q0.2 ub].toArray }).get? b=some o->h₈.get? b=some o:=fun b o hb e=>(hs8.2 b hb).trans e
     refine wpAny_pure (wpAny_pure ⟨rfl,stay _ _ (G6.emp' (fun b o e e2=>k8 b o (by have h1:@LT.lt Nat _ b N:=low1 b o (G1.base b o e);exact o81 _ _ h1) (zl _ _ b o e2)) rfl rfl) ?_ (fun b o h1 h2 e=>k8 b o h2 (zl _ _ b o (k6 b o h1 e))) P8 ?_⟩)
     ·obtain ⟨m,hm⟩:=hns6
      exact ⟨m,hm.at fun o e=>k8 _ o (o86 _) (zl _ _ _ o e)⟩
     ·rw [htake,List.filter_append,Array.toList_push]
      have e9:([q0].filter fun q=>p q.1 q.2)=[q0]:=by simp [hpq]
      rw [e9]
      refine PrsAt.snoc hlt6 ⟨0,k8 _ _ (Nat.ne_of_gt (o87 _ _ hlt6)) (Heap.get?_push_size _ rfl)⟩ (hprs5.mono fun b o hb e=>?_)
      have hb':@LT.lt Nat _ (N+6) b:=hb
      exact k8 b o (o88 _ _ hb) (zl _ _ b o (k6 b o (o84 _ _ hb) e))
   ·have hjl':(xs.zip ys).length<=j:=by exact o89 _ _ hjl
    have hend:it1[j]?=none∨it2[j]?=none:=by
     have s1:it1.size=xs.length:=by have:=V1.length;simpa using this
     have s2:it2.size=ys.length:=by have:=V2.length;simpa using this
     rw [List.length_zip] at hjl'
     by_cases q1:xs.length<=j
     ·left;simp;exact o90 _ _ _ s1 q1
     ·right;simp;exact o91 _ _ _ _ hjl' s2 q1
    refine wpAny_pyNext_zip_end hR.handled Dz hz' hTI' hTO' hi1' hi2' L1 L2 hend fun h₂ hk₂=>wpAny_pure ?_
    have hCs:@LT.lt Nat _ (N+6) s'.heap.objs.size:=hns.lt
    have k3:∀ (b:Nat) o,(@LT.lt Nat _ (N+4) b∨@LT.lt Nat _ b N)->s'.heap.get? b=some o->h₂.get? b=some o:=fun b o hb e =>
     hk₂ b o (by intro z;have z':(b:Nat)=N+4:=z;exact o92 _ _ hb z') (by intro z;have z':(b:Nat)=N+3:=z;exact o93 _ _ hb z') (by intro z;have z':(b:Nat)=N:=z;exact o94 _ _ hb z') (by intro z;have z':(b:Nat)=N+1:=z;exact o95 _ _ hb z') e
    refine (z0 m (hns.at fun o e=>k3 _ o (.inl (o76 _)) e) (fun h₅ hs₅=>?_))
    have k5:∀ (b:Nat) o,b≠N+6->h₂.get? b=some o->h₅.get? b=some o:=fun b o hb e=>(hs₅.2 b hb).trans e
    have ht:(xs.zip ys).take j=xs.zip ys:=List.take_of_length_le hjl'
    rw [ht] at hprs
    have hfin:h₅.PlainList (N+5) items:=xo hD' fun o e=>k5 _ o (o82 _) (k3 _ o (.inl (o83 _)) e)
    have hp5:PrsAt h₅ (N+6) ((xs.zip ys).filter fun q=>p q.1 q.2) items.toList:=hprs.mono fun b o hb e=>by
     have hb':@LT.lt Nat _ (N+6) b:=hb
     exact k5 b o (o84 _ _ hb) (k3 b o (.inl (o77 _ _ hb)) e)
    have hlen:(((xs.zip ys).filter fun q=>p q.1 q.2).map fun q=>CV.tup [.int q.1,.int q.2]).length<=100000:=by
     have h2:((xs.zip ys).filter fun q=>p q.1 q.2).length<=(xs.zip ys).length:=List.length_filter_le _ _
     have h3:(xs.zip ys).length<=xs.length:=by rw [List.length_zip];exact Nat.min_le_left _ _
     rw [List.length_map];exact o96 _ _ _ h2 h3 hbd
    have kk:∀ b o,s₁.heap.get? b=some o->h₅.get? b=some o:=fun b o e=>by
     have hlt:@LT.lt Nat _ b N:=low1 b o e
     exact k5 b o (o80 _ _ hlt) (k3 b o (.inr hlt) (hold b o e))
    refine zh (G1.new (co:=.list (((xs.zip ys).filter fun q=>p q.1 q.2).map fun q=>CV.tup [.int q.1,.int q.2])) (a:=N+5) (h':=h₅) (t:=s'.toks) (by rw [hN];exact Nat.le_add_right _ _) kk fun T=>(zt items hfin hp5.vrs hlen)) ?_;intro G5 K5 T5
    have F5:=F₁.step T5 K5
    refine ⟨.ref (N+5),ρ,_,wk,⟨G5.base,G5.rep,G5.fresh,G5.low,Ge.gens,Ge.os⟩,F5,K1.trans (K5.own (by simp)),rfl,q (N+5) (G1.top (by rw [hN];exact Nat.le_add_right _ _))⟩
  exact yB rfl (loop _ rfl) fun E'=>wpAny_pyIter_zip (old _ _ hz) (loop _ rfl)
end

section
variable {prog:Program} {w:World} {A:Around} {E:Value->Shared->Prop} {s:Shared}
theorem wo {a:Addr} {Q:Option Obj->Shared->Prop} (h:Q (s.heap.get? a) s):wpAny (model prog w) A (loadIfAlive a) Q E s:=fun Γ p _=>by
 unfold loadIfAlive
 simpa using h
noncomputable abbrev x8 (h:Heap) (z TI TO T:Addr) (b:Bool):Prop:=h.get? z=some { cls:=.type "zip",dict:=none,data:=.fields #[rawInt T,.bool b,.bool false,.ref TI,.ref TO],slots:=#[] }
theorem s7 {z TI TO T:Addr} {b:Bool} {oT:Obj} {Q:Bool->Shared->Prop} (hz:x8 s.heap z TI TO T b) (hT:s.heap.get? T=some oT)
  (hQ:∀ h',x8 h' z TI TO T true->Heap.SameBut z s.heap h'->Q false { s with heap:=h' }):wpAny (model prog w) A (Builtin.SmallTypes.ownedTupleIsFree (.ref z)) Q E s:=by
 unfold Builtin.SmallTypes.ownedTupleIsFree
 refine wpAny_bind (wpAny_field hz rfl (x:=rawInt T) rfl ?_)
 show wpAny _ _ (loadIfAlive (Int.ofNat T).toNat >>= _) _ _ _
 refine wpAny_bind (wo ?_)
 show wpAny _ _ _ _ _ _
 rw [show (Int.ofNat T).toNat=T from rfl,hT]
 refine wpAny_bind (wpAny_field hz rfl (x:=.bool b) rfl ?_)
 cases b with
 | true=>exact wpAny_pure (hQ s.heap hz ⟨rfl,fun _ _=>rfl⟩)
 | false=>exact wpAny_bind (wpAny_setField_rec hz (by simp) fun h' hz' hs'=>wpAny_pure (hQ h' hz' hs'))
theorem vC {z TI TO i1 i2 l1 l2 T:Addr} {b:Bool} {k1 k2:Nat} {xs ys:Array Value} {x y:Value} {oT:Obj} {Q:Value->Shared->Prop} (D:ZipApart z TI TO i1 i2 l1 l2)
  (hz:x8 s.heap z TI TO T b) (hT:s.heap.get? T=some oT) (hTI:IsPair s.heap TI (.ref i1) (.ref i2))
  (h1:s.heap.IsListIter i1 l1 k1) (h2:s.heap.IsListIter i2 l2 k2) (hl1:s.heap.IsList l1 xs) (hl2:s.heap.IsList l2 ys) (hx:xs[k1]?=some x) (hy:ys[k2]?=some y)
  (hQ:∀ h',x8 h' z TI TO T true->h'.IsListIter i1 l1 (k1+1)->h'.IsListIter i2 l2 (k2+1)->IsPair h' s.heap.objs.size x y ->
   (∀ c o,c≠z->c≠i1->c≠i2->s.heap.get? c=some o->h'.get? c=some o)->Q (.ref s.heap.objs.size) { s with heap:=h' }) :
  wpAny (model prog w) A (Builtin.«zip.__next__» ⟨[.ref z],[]⟩) (fun fin s'=>∃ v,fin=.done (.ret v)/\Q v s') E s:=by
 show wpAny _ _ (field (.ref z) 2 >>= _) _ _ _
 refine wpAny_bind (wpAny_field hz rfl (x:=.bool false) rfl ?_)
 show wpAny _ _ (field (.ref z) 3 >>= _) _ _ _
 refine wpAny_bind (wpAny_field hz rfl (x:=.ref TI) rfl ?_)
 refine wpAny_bind (wpAny_seqItems hTI rfl ?_)
 show wpAny _ _ (Builtin.SmallTypes.ownedTupleIsFree (.ref z) >>= _) _ _ _
 refine wpAny_bind (s7 hz hT fun h₁ hz1 hs₁=>?_)
 rw [if_neg Bool.false_ne_true]
 refine wpAny_bind ?_
 rw [← Array.forIn_toList,List.forIn_cons]
 refine wpAny_bind (wpAny_bind (wpAny_holding ?_))
 show wpAny _ _ (Builtin.SmallTypes.nextOf (.ref i1) >>= _) _ _ _
 refine wpAny_bind (wpAny_nextOf_list_item (h1.extBut hs₁.extBut D.i1z) (hl1.extBut hs₁.extBut D.l1z) hx fun h₂ h1₂ hs₂=>wpAny_pure (wpAny_pure ?_))
 refine wpAny_bind (wpAny_bind (wpAny_holding ?_))
 show wpAny _ _ (Builtin.SmallTypes.nextOf (.ref i2) >>= _) _ _ _
 refine wpAny_bind (wpAny_nextOf_list_item ((h2.extBut hs₁.extBut D.i2z).extBut hs₂.extBut D.i12.symm) ((hl2.extBut hs₁.extBut D.l2z).extBut hs₂.extBut D.l2i1) hy fun h₃ h23 hs₃=>wpAny_pure (wpAny_pure (wpAny_pure ?_)))
 refine wpAny_bind (wpAny_newTuple (hsz:=by rw [sizeLine_eq];simp) ?_)
 have hsz:h₃.objs.size=s.heap.objs.size:=by rw [hs₃.1,hs₂.1,hs₁.1]
 refine wpAny_pure (z0 _ rfl (?_))
 show Q (.ref h₃.objs.size) _
 rw [hsz]
 refine hQ _ (Heap.get?_push_of_some _ (hs₃.extBut _ _ D.i2z.symm (hs₂.extBut _ _ D.i1z.symm hz1))) ((h1₂.extBut hs₃.extBut D.i12).at fun o e=>Heap.get?_push_of_some _ e) (h23.at fun o e=>Heap.get?_push_of_some _ e) (by rw [← hsz];exact Heap.get?_push_size _ rfl)
  fun c o c1 c3 c4 e=>Heap.get?_push_of_some _ (hs₃.extBut _ _ c4 (hs₂.extBut _ _ c3 (hs₁.extBut _ _ c1 e)))
theorem xD {z TI TO i1 i2 l1 l2 T:Addr} {b:Bool} {k1 k2:Nat} {xs ys:Array Value} {oT:Obj} {Q:Fin->Shared->Prop} (hh:A.handled=none) (D:ZipApart z TI TO i1 i2 l1 l2)
  (hz:x8 s.heap z TI TO T b) (hT:s.heap.get? T=some oT) (hTI:IsPair s.heap TI (.ref i1) (.ref i2))
  (h1:s.heap.IsListIter i1 l1 k1) (h2:s.heap.IsListIter i2 l2 k2) (hl1:s.heap.IsList l1 xs) (hl2:s.heap.IsList l2 ys) (hend:xs[k1]?=none∨ys[k2]?=none)
  (hE:∀ h' e,(∀ c o,c≠z->c≠i1->c≠i2->s.heap.get? c=some o->h'.get? c=some o)->(∃ o,h'.get? e=some o/\o.cls=.type "StopIteration")->E (.ref e) { s with heap:=h' }) :
  wpAny (model prog w) A (Builtin.«zip.__next__» ⟨[.ref z],[]⟩) Q E s:=by
 show wpAny _ _ (field (.ref z) 2 >>= _) _ _ _
 refine wpAny_bind (wpAny_field hz rfl (x:=.bool false) rfl ?_)
 show wpAny _ _ (field (.ref z) 3 >>= _) _ _ _
 refine wpAny_bind (wpAny_field hz rfl (x:=.ref TI) rfl ?_)
 refine wpAny_bind (wpAny_seqItems hTI rfl ?_)
 show wpAny _ _ (Builtin.SmallTypes.ownedTupleIsFree (.ref z) >>= _) _ _ _
 refine wpAny_bind (s7 hz hT fun h₁ hz1 hs₁=>?_)
 rw [if_neg Bool.false_ne_true]
 refine wpAny_bind ?_
 rw [← Array.forIn_toList,List.forIn_cons]
 refine wpAny_bind (wpAny_bind (wpAny_holding ?_))
 show wpAny _ _ (Builtin.SmallTypes.nextOf (.ref i1) >>= _) _ _ _
 cases hx:xs[k1]? with
 | none =>
  refine wpAny_bind (wpAny_nextOf_list_end hh (h1.extBut hs₁.extBut D.i1z) (hl1.extBut hs₁.extBut D.l1z) hx fun h₂ e hs₂ he=>?_)
  exact hE h₂ e (fun c o c1 c3 _ x=>hs₂ _ _ c3 (hs₁.extBut _ _ c1 x)) he
 | some x =>
  have hy:ys[k2]?=none:=by rcases hend with h | h;rw [hx] at h;cases h;exact h
  refine wpAny_bind (wpAny_nextOf_list_item (h1.extBut hs₁.extBut D.i1z) (hl1.extBut hs₁.extBut D.l1z) hx fun h₂ h1₂ hs₂=>wpAny_pure (wpAny_pure ?_))
  refine wpAny_bind (wpAny_bind (wpAny_holding ?_))
  show wpAny _ _ (Builtin.SmallTypes.nextOf (.ref i2) >>= _) _ _ _
  refine wpAny_bind (wpAny_nextOf_list_end hh ((h2.extBut hs₁.extBut D.i2z).extBut hs₂.extBut D.i12.symm) ((hl2.extBut hs₁.extBut D.l2z).extBut hs₂.extBut D.l2i1) hy fun h₃ e hs₃ he=>?_)
  exact hE h₃ e (fun c o c1 c3 c4 x=>hs₃ _ _ c4 (hs₂.extBut _ _ c3 (hs₁.extBut _ _ c1 x))) he
theorem uW {z TI TO i1 i2 l1 l2 T:Addr} {b:Bool} {k1 k2:Nat} {xs ys:Array Value} {x y:Value} {oT:Obj} {Q:Option Value->Shared->Prop} (D:ZipApart z TI TO i1 i2 l1 l2)
  (hz:x8 s.heap z TI TO T b) (hT:s.heap.get? T=some oT) (hTI:IsPair s.heap TI (.ref i1) (.ref i2))
  (h1:s.heap.IsListIter i1 l1 k1) (h2:s.heap.IsListIter i2 l2 k2) (hl1:s.heap.IsList l1 xs) (hl2:s.heap.IsList l2 ys) (hx:xs[k1]?=some x) (hy:ys[k2]?=some y)
  (hQ:∀ h',x8 h' z TI TO T true->h'.IsListIter i1 l1 (k1+1)->h'.IsListIter i2 l2 (k2+1)->IsPair h' s.heap.objs.size x y ->
   (∀ c o,c≠z->c≠i1->c≠i2->s.heap.get? c=some o->h'.get? c=some o)->Q (some (.ref s.heap.objs.size)) { s with heap:=h' }):wpAny (model prog w) A (pyNext (.ref z)) Q E s:=by
 have hT':s.TypeIs (.ref z) "zip":=(z0 _ hz rfl)
 unfold pyNext
 exact wpAny_bind (wpAny_attempt (wpAny_callSpecial?_slot (name:=Str.ofString "__next__") hT' F.slot_zip_next
  (wpAny_call_entry F.slot_zip_next hT' F.entry_zip_next
   (vC D hz hT hTI h1 h2 hl1 hl2 hx hy fun h' a1 a2 a3 a4 a5=>wpAny_pure (hQ h' a1 a2 a3 a4 a5)) (F.args_zip_next_1 _))))
theorem wp {z TI TO i1 i2 l1 l2 T:Addr} {b:Bool} {k1 k2:Nat} {xs ys:Array Value} {oT:Obj} {Q:Option Value->Shared->Prop} (hh:A.handled=none) (D:ZipApart z TI TO i1 i2 l1 l2)
  (hz:x8 s.heap z TI TO T b) (hT:s.heap.get? T=some oT) (hTI:IsPair s.heap TI (.ref i1) (.ref i2))
  (h1:s.heap.IsListIter i1 l1 k1) (h2:s.heap.IsListIter i2 l2 k2) (hl1:s.heap.IsList l1 xs) (hl2:s.heap.IsList l2 ys) (hend:xs[k1]?=none∨ys[k2]?=none)
  (hQ:∀ h',(∀ c o,c≠z->c≠i1->c≠i2->s.heap.get? c=some o->h'.get? c=some o)->Q none { s with heap:=h' }):wpAny (model prog w) A (pyNext (.ref z)) Q E s:=by
 have hT':s.TypeIs (.ref z) "zip":=(z0 _ hz rfl)
 unfold pyNext
 refine wpAny_bind (wpAny_attempt (wpAny_callSpecial?_slot (name:=Str.ofString "__next__") hT' F.slot_zip_next
  (wpAny_call_entry F.slot_zip_next hT' F.entry_zip_next (xD hh D hz hT hTI h1 h2 hl1 hl2 hend fun h' e hk he=>?_) (F.args_zip_next_1 _))))
 refine za (he) ?_;intro o ho hc
 refine wpAny_bind (wpAny_isInstance (T:="StopIteration") (b:=true) (z0 o ho hc) isSubtype_stop ?_)
 exact wpAny_pure (hQ _ hk)
structure ZI (h:Heap) (z TI TO i1 i2 l1 l2 S:Addr) (it1 it2:Array Value) (j:Nat):Prop where
 ti:IsPair h TI (.ref i1) (.ref i2)
 a1:h.IsListIter i1 l1 j
 a2:h.IsListIter i2 l2 j
 b1:h.IsList l1 it1
 b2:h.IsList l2 it2
 zp:(IsZip h z TI TO .none/\∃ a b,IsPair h TO a b)∨∃ T b oT,x8 h z TI TO T b/\h.get? T=some oT/\S<T
theorem r9 {z TI TO i1 i2 l1 l2 S:Addr} {xs ys:List Int} {it1 it2:Array Value} {R:Result->Shared->Prop} {res:Value} (D:ZipApart z TI TO i1 i2 l1 l2) (lt:z<S/\TI<S/\TO<S/\i1<S/\i2<S/\l1<S/\l2<S) (hh:A.handled=none)
  (V1:∀ (j:Nat) x,xs[j]?=some x->∃ t,it1[j]?=some (.int x t)) (V2:∀ (j:Nat) x,ys[j]?=some x->∃ t,it2[j]?=some (.int x t)) (s1:it1.size=xs.length) (s2:it2.size=ys.length) (hbd:xs.length<=1000) :
  ∀ (k j:Nat) (s:Shared) (acc:Array Value) (c:Nat),(xs.zip ys).length-j=k->j<=(xs.zip ys).length->ZI s.heap z TI TO i1 i2 l1 l2 S it1 it2 j->s.heap.get? S=some { cls:=.type "list",dict:=none,data:=.seq acc c,slots:=#[] } ->
  PrsAt s.heap S ((xs.zip ys).take j) acc.toList ->
  (∀ H acc' c',(∀ b o,b<S->b≠z->b≠TO->b≠i1->b≠i2->s.heap.get? b=some o->H.get? b=some o)->H.get? S=some { cls:=.type "list",dict:=none,data:=.seq acc' c',slots:=#[] }->PrsAt H S (xs.zip ys) acc'.toList->R (.ok (.ret res)) { s with heap:=H }) ->
  codeAny (model prog w) A (.builtin "list.extend.loop" ⟨[.ref S,.ref z,res],[]⟩) R s:=by
 refine lY (lt) ?_;intro t1 t2 t3 t4 t5 t6 t7
 intro k
 induction k with
 | zero =>
  intro j s acc c hk hj Z hS hp hR
  have hjl:(xs.zip ys).length<=j:=by exact o97 _ _ hk
  have hend:it1[j]?=none∨it2[j]?=none:=by
   rw [List.length_zip] at hjl
   by_cases q1:xs.length<=j
   ·left;simp;exact o90 _ _ _ s1 q1
   ·right;simp;exact o91 _ _ _ _ hjl s2 q1
  rw [List.take_of_length_le hjl] at hp
  refine codeAny_builtin F.entry_extend_loop ?_
  rw [Around.under_plainId F.plain_extend_loop _]
  show wpAny _ A.in1 (pyNext (.ref z) >>= _) _ _ s
  refine wpAny_bind ?_
  have fin:∀ H,(∀ c o,c≠z->c≠TO->c≠i1->c≠i2->s.heap.get? c=some o->H.get? c=some o)->R (.ok (.ret res)) { s with heap:=H }:=fun H hk=>by
   refine hR H acc c (fun b o _ h1 h2 h3 h4 e=>hk b o h1 h2 h3 h4 e) (hk S _ (Nat.ne_of_gt t1) (Nat.ne_of_gt t3) (Nat.ne_of_gt t4) (Nat.ne_of_gt t5) hS) (hp.mono fun b o hb e=>hk b o (Nat.ne_of_gt (Nat.lt_trans t1 hb)) (Nat.ne_of_gt (Nat.lt_trans t3 hb)) (Nat.ne_of_gt (Nat.lt_trans t4 hb)) (Nat.ne_of_gt (Nat.lt_trans t5 hb)) e)
  rcases Z.zp with ⟨hz,ta,tb,hTO⟩ | ⟨T,b,oT,hz,hT,hST⟩
  ·exact wpAny_pyNext_zip_end (A:=A.in1) hh D hz Z.ti hTO Z.a1 Z.a2 Z.b1 Z.b2 hend fun h' hk=>wpAny_pure (fin h' hk)
  ·exact wp (A:=A.in1) hh D hz hT Z.ti Z.a1 Z.a2 Z.b1 Z.b2 hend fun h' hk=>wpAny_pure (fin h' fun c o h1 _ h3 h4 e=>hk c o h1 h3 h4 e)
 | succ k ih =>
  intro j s acc c hk hj Z hS hp hR
  have hjl:j<(xs.zip ys).length:=by exact o98 _ _ _ hk
  obtain ⟨e1,e2⟩:=List.getElem?_zip_eq_some.mp (List.getElem?_eq_getElem hjl)
  have htake:(xs.zip ys).take (j+1)=(xs.zip ys).take j++[(xs.zip ys)[j]]:=List.take_succ_eq_append_getElem hjl
  generalize (xs.zip ys)[j]=q0 at *
  obtain ⟨u,hu⟩:=V1 _ _ e1
  obtain ⟨v,hv⟩:=V2 _ _ e2
  have hlen:acc.size<=1000:=by
   have h1:=hp.length
   have h2:=List.length_take_le' j (xs.zip ys)
   have h3:(xs.zip ys).length<=xs.length:=by rw [List.length_zip];exact Nat.min_le_left _ _
   have h4:acc.toList.length=acc.size:=by simp
   exact o85 _ _ _ _ h1 h2 h3 hbd
  refine codeAny_builtin F.entry_extend_loop ?_
  rw [Around.under_plainId F.plain_extend_loop _]
  show wpAny _ A.in1 (pyNext (.ref z) >>= _) _ _ s
  refine wpAny_bind ?_
  have hSlt:S<s.heap.objs.size:=Heap.lt_size hS
  have go:∀ H,IsPair H TI (.ref i1) (.ref i2)->H.IsListIter i1 l1 (j+1)->H.IsListIter i2 l2 (j+1)->IsPair H s.heap.objs.size (.int q0.1 u) (.int q0.2 v)->(∀ c o,c≠z->c≠TO->c≠i1->c≠i2->s.heap.get? c=some o->H.get? c=some o) ->
    (∃ T b oT,x8 H z TI TO T b/\H.get? T=some oT/\S<T) ->
    wpAny (model prog w) A.in1 (updateSeq S (·.push (.ref s.heap.objs.size)) >>= fun _=>again (.builtin "list.extend.loop" ⟨[.ref S,.ref z,res],[]⟩))
     (fun fin s'=>match fin with | .done f=>R (.ok f) s' | .again c'=>c'.quiet=true/\codeAny (model prog w) A c' R s') (fun e s'=>R (.error e) s') { s with heap:=H }:=fun H h1 h2 h3 h4 h5 h6=>by
   have hS':=h5 S _ (Nat.ne_of_gt t1) (Nat.ne_of_gt t3) (Nat.ne_of_gt t4) (Nat.ne_of_gt t5) hS
   have L1:H.IsList l1 it1:=Z.b1.at fun o e=>h5 _ o D.l1z D.l1TO D.l1i1 D.l1i2 e
   have L2:H.IsList l2 it2:=Z.b2.at fun o e=>h5 _ o D.l2z D.l2TO D.l2i1 D.l2i2 e
   have up:∀ b o,b≠S->H.get? b=some o->(H.update S (Obj.mapSeq (·.push (.ref s.heap.objs.size)))).get? b=some o:=fun b o hb e=>(Heap.get?_update_other _ _ (Ne.symm hb)).trans e
   refine wpAny_bind (wpAny_updateSeq hS' rfl (wpAny_pure ⟨plainId_quiet F.plain_extend_loop _,ih (j+1) _ (acc.push (.ref s.heap.objs.size)) _ (o99 _ _ _ hk) hjl ?_ (Heap.get?_update_self _ hS' rfl) ?_ fun H' acc' c' hk' hS'' hp'=>?_⟩) (by rw [sizeLine_eq];exact o34 _ hlen) (by show (acc.push _).size<=sizeLine+1;rw [Array.size_push,sizeLine_eq];exact o100 _ hlen))
   ·refine ⟨up _ _ (Nat.ne_of_lt t2) h1,h2.at fun o e=>up _ o (Nat.ne_of_lt t4) e,h3.at fun o e=>up _ o (Nat.ne_of_lt t5) e,L1.at fun o e=>up _ o (Nat.ne_of_lt t6) e,L2.at fun o e=>up _ o (Nat.ne_of_lt t7) e,.inr ?_⟩
    refine ym (h6) ?_;intro T b oT x1 x2 x3
    exact (yn T b oT (up _ _ (Nat.ne_of_lt t1) x1) (up _ _ (Nat.ne_of_gt x3) x2) x3)
   ·rw [htake,Array.toList_push]
    refine PrsAt.snoc hSlt ⟨0,up _ _ (Nat.ne_of_gt hSlt) h4⟩ (hp.mono fun b o hb e=>up _ _ (Nat.ne_of_gt hb) (h5 b o (Nat.ne_of_gt (Nat.lt_trans t1 hb)) (Nat.ne_of_gt (Nat.lt_trans t3 hb)) (Nat.ne_of_gt (Nat.lt_trans t4 hb)) (Nat.ne_of_gt (Nat.lt_trans t5 hb)) e))
   ·exact hR H' acc' c' (fun b o hb x1 x2 x3 x4 e=>hk' b o hb x1 x2 x3 x4 (up b o (Nat.ne_of_lt hb) (h5 b o x1 x2 x3 x4 e))) hS'' hp'
  rcases Z.zp with ⟨hz,ta,tb,hTO⟩ | ⟨T,b,oT,hz,hT,hST⟩
  ·refine wpAny_pyNext_zip_item D hz Z.ti hTO Z.a1 Z.a2 Z.b1 Z.b2 hu hv fun h' hz' hTO' g1 g2 g3 _ g5=>?_
   exact go h' (g5 _ _ D.TIz D.TITO D.TIi1 D.TIi2 Z.ti) g1 g2 g3 g5 (yn _ false _ hz' g3 hSlt)
  ·refine uW D hz hT Z.ti Z.a1 Z.a2 Z.b1 Z.b2 hu hv fun h' hz' g1 g2 g3 g5=>?_
   exact go h' (g5 _ _ D.TIz D.TIi1 D.TIi2 Z.ti) g1 g2 g3 (fun c o h1 _ h3 h4 e=>g5 c o h1 h3 h4 e) (yn T true oT hz' (g5 _ _ (Nat.ne_of_gt (Nat.lt_trans t1 hST)) (Nat.ne_of_gt (Nat.lt_trans t4 hST)) (Nat.ne_of_gt (Nat.lt_trans t5 hST)) hT) hST)
theorem rc:typeLookup (.type "zip") "__len__" = pure none:=by rw [typeLookup_type,builtinLookup_eq_fast];kernel_rfl
theorem uX:typeLookup (.type "zip") "__length_hint__" = pure none:=by rw [typeLookup_type,builtinLookup_eq_fast];kernel_rfl
theorem vD {z TI TO i1 i2 l1 l2:Addr} {xs ys:List Int} {it1 it2:Array Value} {Q:Value->Shared->Prop} (D:ZipApart z TI TO i1 i2 l1 l2) (hh:A.handled=none)
  (V1:∀ (j:Nat) x,xs[j]?=some x->∃ t,it1[j]?=some (.int x t)) (V2:∀ (j:Nat) x,ys[j]?=some x->∃ t,it2[j]?=some (.int x t)) (s1:it1.size=xs.length) (s2:it2.size=ys.length) (hbd:xs.length<=1000)
  (hz:IsZip s.heap z TI TO .none) (hTI:IsPair s.heap TI (.ref i1) (.ref i2)) (hTO:∃ a b,IsPair s.heap TO a b) (h1:s.heap.IsListIter i1 l1 0) (h2:s.heap.IsListIter i2 l2 0) (hl1:s.heap.IsList l1 it1) (hl2:s.heap.IsList l2 it2)
  (hQ:∀ H acc' c',(∀ b o,b≠z->b≠TO->b≠i1->b≠i2->s.heap.get? b=some o->H.get? b=some o)->H.get? s.heap.objs.size=some { cls:=.type "list",dict:=none,data:=.seq acc' c',slots:=#[] }->PrsAt H s.heap.objs.size (xs.zip ys) acc'.toList->Q (.ref s.heap.objs.size) { s with heap:=H }) :
  wpAny (model prog w) A (call (.type "list") [.ref z]) Q E s:=by
 refine zL (hTO) ?_;intro ta tb hTO
 refine callType_codes (Q₁:=fun obj s₁=>obj=.ref s.heap.objs.size/\s₁={ s with heap:=s.heap.push { cls:=.type "list",data:=.seq #[] } }) F.called_list (F.typeCall_list_1 _) F.entry_list_init
  (code_list_new _ ⟨rfl,rfl⟩) fun obj s₁ h₁=>?_
 obtain ⟨rfl,rfl⟩:=h₁
 have hS:(s.heap.push { cls:=.type "list",data:=.seq #[] }).get? s.heap.objs.size=some { cls:=.type "list",data:=.seq #[] }:=Heap.get?_push_size _ rfl
 refine ⟨(z0 _ hS rfl),F.args_list_init_2 _ _,?_⟩
 generalize hSz:s.heap.objs.size=S at *
 have lts:∀ {b o},s.heap.get? b=some o->b<S:=fun e=>by rw [← hSz];exact Heap.lt_size e
 have lti1:i1<S:=by refine za (h1) ?_;intro _ e _;exact lts e
 have lti2:i2<S:=by refine za (h2) ?_;intro _ e _;exact lts e
 have ltl1:l1<S:=by refine za (hl1) ?_;intro _ e _;exact lts e
 have ltl2:l2<S:=by refine za (hl2) ?_;intro _ e _;exact lts e
 show wpAny _ A.in1.in1 (do let old ← Builtin.List.listItems (.ref S);Builtin.List.listUpdate (.ref S) (fun _=>#[]);letGo old.toList.reverse;Builtin.List.listExtendWith (.ref S) (.ref z) .none) _ _ _
 refine wpAny_bind ?_
 unfold Builtin.List.listItems
 refine wpAny_bind (wpAny_seqItems hS rfl (wpAny_pure ?_))
 show wpAny _ A.in1.in1 (updateSeq S (fun _=>#[]) >>= fun _=>letGo (#[]:Array Value).toList.reverse >>= fun _=>Builtin.List.listExtendWith (.ref S) (.ref z) .none) _ _ _
 refine wpAny_bind (wpAny_updateSeq hS rfl ?_)
 have hS2:=Heap.get?_update_self (Obj.mapSeq (fun _=>(#[]:Array Value))) hS rfl
 generalize hH2:(s.heap.push { cls:=.type "list",data:=.seq #[] }).update S (Obj.mapSeq (fun _=>(#[]:Array Value)))=H2 at *
 have up2:∀ b o,s.heap.get? b=some o->H2.get? b=some o:=fun b o e=>by
  rw [← hH2];exact (Heap.get?_update_other _ _ (Nat.ne_of_gt (lts e))).trans (Heap.get?_push_of_some _ e)
 refine wpAny_bind (wpAny_letGo ?_)
 unfold Builtin.List.listExtendWith
 have hT:Shared.TypeIs { s with heap:=H2 } (.ref z) "zip":=(z0 _ (up2 _ _ hz) rfl)
 refine wpAny_bind (wpAny_typeOf hT ?_)
 have e1:Builtin.List.listSameRef (.ref S) (.ref z)=false:=by simpa [Builtin.List.listSameRef] using Nat.ne_of_gt (lts hz)
 have e2:(Value.type "zip"==Value.type "list")=false:=by decide
 have e3:(Value.type "zip"==Value.type "tuple")=false:=by decide
 simp only [e1,e2,e3,Bool.or_false,Bool.false_eq_true,if_false]
 refine wpAny_bind (wpAny_pyIter_zip (up2 _ _ hz) ?_)
 refine wpAny_bind (wpAny_holding ?_)
 unfold Builtin.List.listLengthHint
 refine wpAny_bind (wpAny_specialOf hT rc ?_)
 show wpAny _ A.in1.in1 (specialOf (Value.ref z) (Str.ofString "__length_hint__") >>= _) _ _ _
 refine wpAny_bind (wpAny_specialOf hT uX ?_)
 refine wpAny_pure ?_
 show wpAny _ A.in1.in1 (rule "list.extend.makes-room" >>= fun _=>Builtin.List.listTouch (.ref S) >>= fun _ =>
  again (.builtin "list.extend.loop" ⟨[.ref S,.ref z,.none],[]⟩)) _ _ _
 refine wpAny_bind (wpAny_rule ?_)
 refine wpAny_bind ?_
 show wpAny _ A.in1.in1 (updateSeq S (·.push .none) >>= fun _=>updateSeq S (·.pop)) _ _ _
 refine wpAny_bind (wpAny_updateSeq hS2 rfl ?_)
 have hS3:=Heap.get?_update_self (Obj.mapSeq (·.push Value.none)) hS2 rfl
 refine wpAny_updateSeq (hz:=by seq_fits) hS3 rfl ?_
 have hS4:=Heap.get?_update_self (Obj.mapSeq (·.pop)) hS3 rfl
 have up4:∀ b o,s.heap.get? b=some o->((H2.update S (Obj.mapSeq (·.push Value.none))).update S (Obj.mapSeq (·.pop))).get? b=some o :=
  fun b o e=>(Heap.get?_update_other _ _ (Nat.ne_of_gt (lts e))).trans ((Heap.get?_update_other _ _ (Nat.ne_of_gt (lts e))).trans (up2 b o e))
 refine wpAny_pure ⟨plainId_quiet F.plain_extend_loop _,r9 (A:=A.in1) (xs:=xs) (ys:=ys) D ⟨lts hz,lts hTI,lts hTO,lti1,lti2,ltl1,ltl2⟩ hh V1 V2 s1 s2 hbd _ 0 _ _ _ rfl (Nat.zero_le _)
  ⟨up4 _ _ hTI,h1.at fun o e=>up4 _ o e,h2.at fun o e=>up4 _ o e,hl1.at fun o e=>up4 _ o e,hl2.at fun o e=>up4 _ o e,.inl ⟨up4 _ _ hz,(zZ _ _ (up4 _ _ hTO))⟩⟩ hS4 rfl fun H acc' c' hk hS' hp=>?_⟩
 exact ⟨rfl,hQ H acc' c' (fun b o x1 x2 x3 x4 e=>hk b o (lts e) x1 x2 x3 x4 (up4 b o e)) hS' hp⟩
end

section
variable {c:Cx} {n:Nat} {env:Env} {own:List Addr} {ρ ρ0:Loc} {σ:Sto}
theorem pW {e e':Expr} {p p' pos pos':Pos} {Q:CV->Sto->Prop} (hkd:env.kindOf "zip" = some .globalImplicit) (hn:nsIn c.K mainGlobals "zip" = some none) (hkd':env.kindOf "list" = some .globalImplicit) (hn':nsIn c.K mainGlobals "list" = some none)
  (hplain:(backTo pos (starEach [e,e'] env)).any (·.1)=false) (he:starEach [e,e'] env=(false,eval e env)::starEach [e'] env)
  (hplain':(backTo pos' (starEach [.Call (.Name "zip" p) [e,e'] [] pos] env)).any (·.1)=false) (he':starEach [.Call (.Name "zip" p) [e,e'] [] pos] env=(false,eval (.Call (.Name "zip" p) [e,e'] [] pos) env)::starEach [] env)
  (h:WAs c n env own pos [e,e'] (fun vs σ₁=>∃ (l1 l2:Addr) (xs ys:List Int),vs=[.ref l1,.ref l2]/\σ₁ l1=some (.list (xs.map .int))/\σ₁ l2=some (.list (ys.map .int))/\xs.length<=1000 /\
   ∀ d,σ₁ d=none->Q (.ref d) (upd σ₁ d (.list ((xs.zip ys).map fun q=>CV.tup [.int q.1,.int q.2])))) ρ σ) :
  WE c n env own (.Call (.Name "list" p') [.Call (.Name "zip" p) [e,e'] [] pos] [] pos') Q ρ σ :=
 .mk fun A s hR G F=>wpAny_Call_NameR (zy G F hkd' hn' (v:=.type "list") rfl (by decide) (by
  refine callWith_of (P:=c.K.In) (by rw [hplain'];rfl) yG ?_
  have h1:wpAny (model c.prog c.w) A (spliced (backTo pos' (starEach [.Call (.Name "zip" p) [e,e'] [] pos] env))) (fun vs s₁=>c.K.In s₁.heap/\wpAny (model c.prog c.w) A (call (.type "list") ([]++vs) []) (PE c env own VR (fun g ρ' σ'=>ρ'=ρ/\Q g σ') σ s) Ef s₁) Ef s:=by
   refine spliced_more (rest:=[]) (wpAny_Call_NameR (zy G F hkd hn (v:=.type "zip") rfl (by decide) (yP yG hplain he h hR G F fun vals vs s₁ σ₁ G1 F₁ K1 V hq=>?_) (by decide))) he'
   refine tN (hq) ?_;intro l1 l2 xs ys ev hl1 hl2 hbd q
   subst ev
   refine zg (V.inv) ?_;rintro v r rfl hv V
   refine zg (V.inv) ?_;rintro w r rfl hw V
   obtain rfl:=VRs.nil_iff.mp V
   obtain rfl:=zO hv
   obtain rfl:=zO hw
   refine zm (G1.list hl1) ?_;intro it1 P1 V1 _
   refine zm (G1.list hl2) ?_;intro it2 P2 V2 _
   have Dz:=zipApart_new (n:=s₁.heap.objs.size) (Heap.lt_size P1.isList.choose_spec.1) (Heap.lt_size P2.isList.choose_spec.1)
   refine call_zip_2 P1.isList P2.isList fun h₀ hz hTI hTO hi1 hi2 hsz hk=>?_
   refine spliced_none ?_
   refine ⟨c.X.keeps fun b o e=>hk b o (G1.base b o e),?_⟩
   have sz1:it1.size=xs.length:=by have:=V1.length;simpa using this
   have sz2:it2.size=ys.length:=by have:=V2.length;simpa using this
   refine vD (xs:=xs) (ys:=ys) Dz hR.handled (fun j x e=>by obtain ⟨t,ht⟩:=s6 V1 e;exact ⟨t,by simpa using ht⟩) (fun j x e=>by obtain ⟨t,ht⟩:=s6 V2 e;exact ⟨t,by simpa using ht⟩) sz1 sz2 hbd hz hTI (zZ _ _ hTO) hi1 hi2 (P1.isList.at fun o e=>hk _ o e) (P2.isList.at fun o e=>hk _ o e) fun H acc' c' hk' hS hp=>?_
   have low1:∀ b o,s₁.heap.get? b=some o->b<s₁.heap.objs.size:=fun b o e=>Heap.lt_size e
   have kk:∀ b o,s₁.heap.get? b=some o->H.get? b=some o:=fun b o e=>by
    have hlt:=low1 b o e
    exact hk' b o (Nat.ne_of_lt (Nat.lt_of_lt_of_le hlt (Nat.le_add_right _ _))) (Nat.ne_of_lt (Nat.lt_of_lt_of_le hlt (Nat.le_add_right _ _))) (Nat.ne_of_lt hlt) (Nat.ne_of_lt (Nat.lt_of_lt_of_le hlt (Nat.le_add_right _ _))) (hk b o e)
   have hlen:((xs.zip ys).map fun q=>CV.tup [.int q.1,.int q.2]).length<=100000:=by
    have h3:(xs.zip ys).length<=xs.length:=by rw [List.length_zip];exact Nat.min_le_left _ _
    rw [List.length_map];exact o101 _ _ h3 hbd
   have hle:s₁.heap.objs.size<=h₀.objs.size:=by rw [hsz];exact Nat.le_add_right _ _
   refine zh (G1.new (co:=.list ((xs.zip ys).map fun q=>CV.tup [.int q.1,.int q.2])) (a:=h₀.objs.size) (h':=H) (t:=s₁.toks) hle kk fun T=>(zt acc' (⟨c',hS⟩) hp.vrs hlen)) ?_;intro G5 K5 T5
   exact ⟨.ref _,ρ,_,wk,G5,F₁.step T5 K5,K1.trans (K5.own (by simp)),rfl,q _ (G1.top hle)⟩
  rw [he'] at h1 ⊢
  exact evalArgs_plain h1) (by decide))
end

set_option backward.match.sparseCases false
structure Stop (P:Prop):Prop where
 go:P
noncomputable abbrev KE:=CV->Sto->Prop
noncomputable abbrev KB:=Bool->Sto->Prop
noncomputable abbrev KL:=List CV->Sto->Prop
noncomputable abbrev KS:=CF->Loc->Sto->Prop
noncomputable abbrev TE:=Expr->KE->Loc->Sto->Prop
noncomputable abbrev TL:=List Expr->KL->Loc->Sto->Prop
noncomputable abbrev TS:=List Stmt->KS->Loc->Sto->Prop
section
variable (c:Cx) (n:Nat)
structure Br (v:Bool) (A B:Prop):Prop where
 t:v=true->A
 f:v=false->B
noncomputable def nIf (b:Bool) (P S:Prop):Prop:=match b with | false=>P | true=>S
noncomputable def bIf (b:Bool) (P S:Prop):Prop:=match b with | true=>P | false=>S
noncomputable def pX (a b:CV) (k:Int->Int->Prop) (S:Prop):Prop:=match a with
 | .int i=>(match b with | .int j=>k i j | _=>S)
 | _=>S
noncomputable def hX (a b:CV) (k:Str->Str->Prop) (S:Prop):Prop:=match a with
 | .str i=>(match b with | .str j=>k i j | _=>S)
 | _=>S
noncomputable def kQ (op:Operator) (a b:CV) (Q:KE) (σ:Sto):Prop:=match op with
 | .Add=>pX a b (fun i j=>Q (.int (i+j)) σ) (Stop (OW c n VR [a,b] (bin .Add) Q σ))
 | .Sub=>pX a b (fun i j=>Q (.int (i-j)) σ) (Stop (OW c n VR [a,b] (bin .Sub) Q σ))
 | op=>Stop (OW c n VR [a,b] (bin op) Q σ)
noncomputable def pY (op:CmpOp) (a b:CV) (Q:KE) (σ:Sto):Prop:=match op with
 | .Eq=>pX a b (fun i j=>Q (.bool (i==j)) σ) (hX a b (fun i j=>Q (.bool (i==j)) σ) (Stop (OW c n VR [a,b] (cmp .Eq) Q σ)))
 | .NotEq=>pX a b (fun i j=>Q (.bool (i != j)) σ) (Stop (OW c n VR [a,b] (cmp .NotEq) Q σ))
 | .Lt=>pX a b (fun i j=>Q (.bool (decide (i<j))) σ) (Stop (OW c n VR [a,b] (cmp .Lt) Q σ))
 | .LtE=>pX a b (fun i j=>Q (.bool (decide (i<=j))) σ) (Stop (OW c n VR [a,b] (cmp .LtE) Q σ))
 | .Gt=>pX a b (fun i j=>Q (.bool (decide (j<i))) σ) (Stop (OW c n VR [a,b] (cmp .Gt) Q σ))
 | .GtE=>pX a b (fun i j=>Q (.bool (decide (j<=i))) σ) (Stop (OW c n VR [a,b] (cmp .GtE) Q σ))
 | .Is=>(match b with | .none=>Q (.bool (vW a)) σ | b=>Stop (OW c n VR [a,b] (cmp .Is) Q σ))
 | op=>Stop (OW c n VR [a,b] (cmp op) Q σ)
noncomputable def kR (op:UnaryOp) (a:CV) (Q:KE) (σ:Sto):Prop:=match op with
 | .USub=>(match a with | .int i=>Q (.int (-i)) σ | a=>Stop (OW c n VR [a] (una .USub) Q σ))
 | .Not=>(match a with | .bool b=>Q (.bool (!b)) σ | a=>Stop (OW c n VR [a] (una .Not) Q σ))
 | op=>Stop (OW c n VR [a] (una op) Q σ)
noncomputable def lV (Q:KB):KE:=fun v σ=>match v with
 | .bool b=>Q b σ
 | v=>Stop (OW c n BR [v] tru Q σ)
noncomputable def ib (op:Operator) (a:CV) (Q:KE):KE:=fun b σ=>kQ c n op a b Q σ
noncomputable def ic (wE:TE) (op:Operator) (r:Expr) (Q:KE) (ρ:Loc):KE:=fun a σ=>wE r (ib c n op a Q) ρ σ
noncomputable def ie (op:CmpOp) (a:CV) (Q:KE):KE:=fun b σ=>pY c n op a b Q σ
noncomputable def ig (wE:TE) (op:CmpOp) (r:Expr) (Q:KE) (ρ:Loc):KE:=fun a σ=>wE r (ie c n op a Q) ρ σ
noncomputable def gM (op:UnaryOp) (Q:KE):KE:=fun a σ=>kR c n op a Q σ
noncomputable def ii (value slice:Expr) (o:CV) (Q:KE):KE:=fun i σ=>Stop (OW c n VR [o,i] (lU value slice) Q σ)
noncomputable def gN (wE:TE) (value slice:Expr) (Q:KE) (ρ:Loc):KE:=fun o σ=>wE slice (ii c n value slice o Q) ρ σ
noncomputable def gP (wE:TE) (b o:Expr) (Q:KE) (ρ:Loc):KB:=fun v σ=>Br v (wE b Q ρ σ) (wE o Q ρ σ)
structure AttrTo (ov:CV) (attr:Str) (Q:KE) (σ:Sto):Prop where
 go:∃ x C dx fs cv,ov=.ref x/\σ x=some (.inst C dx)/\σ dx=some (.attrs fs)/\wj c.K C attr=true/\fs.lookup attr=some cv/\Q cv σ
theorem AttrTo.of {c:Cx} {ov:CV} {attr:Str} {Q:KE} {σ:Sto} {x C dx:Addr} {fs:List (Str × CV)} {cv:CV} (h1:ov=.ref x) (h2:σ x=some (.inst C dx)) (h3:σ dx=some (.attrs fs)) (h4:wj c.K C attr=true) (h5:fs.lookup attr=some cv) (h:Q cv σ):AttrTo c ov attr Q σ:=⟨(rT x C dx fs cv h1 h2 h3 h4 h5 h)⟩
structure MethTo (ov:CV) (name:Str) (k:Value->Prop) (σ:Sto):Prop where
 go:∃ f,yb c ov name f σ/\yu c f/\k f
theorem MethTo.of {c:Cx} {ov:CV} {name:Str} {k:Value->Prop} {σ:Sto} {f:Value} (h1:yb c ov name f σ) (h2:yu c f) (h:k f):MethTo c ov name k σ:=⟨(zt f h1 h2 h)⟩
structure AttaTo (ov:CV) (attr:Str) (v:CV) (Q:Sto->Prop) (σ:Sto):Prop where
 go:∃ x C dx fs,ov=.ref x/\σ x=some (.inst C dx)/\σ dx=some (.attrs fs)/\pH c.K C attr=true/\fs.length<90/\Q (upd σ dx (.attrs (put fs attr v)))
theorem AttaTo.of {c:Cx} {ov:CV} {attr:Str} {v:CV} {Q:Sto->Prop} {σ:Sto} {x C dx:Addr} {fs:List (Str × CV)} (h1:ov=.ref x) (h2:σ x=some (.inst C dx)) (h3:σ dx=some (.attrs fs)) (h4:pH c.K C attr=true) (h5:fs.length<90) (h:Q (upd σ dx (.attrs (put fs attr v)))):AttaTo c ov attr v Q σ:=⟨(vZ x C dx fs h1 h2 h3 h4 h5 h)⟩
structure ListTo (vs:List CV) (Q:KE) (σ:Sto):Prop where
 short:vs.length<=100000
 go:∀ d,σ d=none->Q (.ref d) (upd σ d (.list vs))
noncomputable def ij (attr:Str) (Q:KE):KE:=fun ov σ=>AttrTo c ov attr Q σ
noncomputable def kT (v:CV) (Q:KL):KL:=fun vs σ=>Q (v::vs) σ
noncomputable def hY (wEs:TL) (es:List Expr) (Q:KL) (ρ:Loc):KE:=fun v σ=>wEs es (kT v Q) ρ σ
noncomputable def kU (f:Value) (Q:KE):KL:=fun vs σ=>Stop (OW c n VR vs (zQ f) Q σ)
noncomputable def ik (wEs:TL) (name:Str) (es:List Expr) (Q:KE) (ρ:Loc):KE:=fun ov σ=>MethTo c ov name (fun f=>wEs es (kT ov (kU c n f Q)) ρ σ) σ
noncomputable def il (Q:KE):KL:=fun vs σ=>ListTo vs Q σ
noncomputable def gQ (Q:KE):KL:=fun vs σ=>vs.length<=1000/\Q (.tup vs) σ
noncomputable def kGo (wEs:TL) (es:List Expr) (Q:KE) (ρ:Loc) (σ:Sto):Value->Prop:=fun g=>wEs es (kU c n g Q) ρ σ
noncomputable def gR (Q:KE) (σ:Sto):Value->Prop:=fun g=>Stop (OW c n VR [] (zQ g) Q σ)
noncomputable def im (Q:KB):KB:=fun b σ=>Q (!b) σ
noncomputable def gS (wT:List Expr->KB->Loc->Sto->Prop) (es:List Expr) (Q:KB) (ρ:Loc):KB:=fun b σ=>Br b (wT es Q ρ σ) (Q false σ)
noncomputable def kOr (wT:List Expr->KB->Loc->Sto->Prop) (es:List Expr) (Q:KB) (ρ:Loc):KB:=fun b σ=>Br b (Q true σ) (wT es Q ρ σ)
noncomputable def kSq (wS:TS) (rest:List Stmt) (Q:KS):KS:=fun f ρ σ=>match f with
 | .next=>wS rest Q ρ σ
 | f=>Q f ρ σ
noncomputable def gT (Q:KS) (ρ:Loc):KE:=fun v σ=>Q (.ret v) ρ σ
noncomputable def gU (Q:KS) (ρ:Loc):KE:=fun v σ=>v=.none/\Q .next ρ σ
noncomputable abbrev KA:=Loc->Sto->Prop
noncomputable abbrev TA:=Expr->CV->KA->Loc->Sto->Prop
noncomputable def kNx (Q:KS):KA:=fun ρ σ=>Q .next ρ σ
noncomputable def hZ (wA:TA) (t:Expr) (Q:KS) (ρ:Loc):KE:=fun v σ=>wA t v (kNx Q) ρ σ
noncomputable def gV (ov:CV) (v:CV) (Q:KA) (ρ:Loc):KE:=fun iv σ=>Stop (setF ov iv v c n (fun σ₃=>Q ρ σ₃) σ)
noncomputable def io (wE:TE) (i:Expr) (v:CV) (Q:KA) (ρ:Loc):KE:=fun ov σ=>wE i (gV c n ov v Q ρ) ρ σ
noncomputable def ip (attr:Str) (v:CV) (Q:KA) (ρ:Loc):KE:=fun ov σ=>AttaTo c ov attr v (fun σ₁=>Q ρ σ₁) σ
noncomputable def kE:Expr->Nat | .Name ..=>0 | .Attribute ..=>1 | .Subscript ..=>2 | .Dict ..=>3 | .Call ..=>4 | .Slice ..=>5 | .Starred ..=>6 | .ListComp ..=>7 | .SetComp ..=>7 | .DictComp ..=>7 | .Tuple ..=>8 | _=>9
noncomputable def gE:Expr->Nat | .Call g _ _ _=>kE g | _=>9
noncomputable def mY (e:Expr):Bool:=Nat.blt (kE e) 7 || Nat.beq (kE e) 9
noncomputable def puts (ρ:Loc):List Str->List CV->Loc
 | x::xs,v::vs=>puts (put ρ x v) xs vs
 | _,_=>ρ
noncomputable def iq:Option NameKind->Bool | some .local=>true | _=>false
noncomputable def uY (env:Env):Expr->Option Str
 | .Name x _=>cond (iq (env.kindOf x)) (some x) none
 | _=>none
noncomputable def yD (env:Env):List Expr->Option (List Str)
 | []=>some []
 | e::es=>(uY env e).bind fun x=>(yD env es).map (x::·)
inductive CallTo (x:Str) (k:Value->Prop):Prop
 | fn {a:Addr} (hn:nsIn c.K mainGlobals x=some (some (.ref a))) (hk:keepIn c.K (.ref a)=true) (h:k (.ref a))
 | bi {i:String} (hn:nsIn c.K mainGlobals x=some none) (hb:bootBuiltins x=some (.builtin i)) (h:k (.builtin i))
 | ty {i:String} (hn:nsIn c.K mainGlobals x=some none) (hb:bootBuiltins x=some (.type i)) (h:k (.type i))
inductive CallTo0 (x:Str) (k:Value->Prop):Prop
 | fn {a:Addr} (hn:nsIn c.K mainGlobals x=some (some (.ref a))) (hk:keepIn c.K (.ref a)=true) (h:k (.ref a))
noncomputable def pw (x:Str):Bool:=x != "__debug__"&&x != "__classdict__"&&x != "__name__"
noncomputable def g6 (b:Bool) (o:Option CV) (k:Option NameKind) (Q:KE) (σ:Sto) (S:Prop):Prop:=match b with
 | true=>(match o with
  | some v=>(match k with | some .local=>Q v σ | some .cell=>Q v σ | some .free=>Q v σ | _=>S)
  | none=>S)
 | false=>S
noncomputable def gW (k:Const) (Q:KE) (σ:Sto) (S:Prop):Prop:=match k with
 | .int i=>Q (.int i) σ
 | .str x=>Q (.str x) σ
 | .bool b=>Q (.bool b) σ
 | .none=>Q .none σ
 | _=>S
noncomputable def ir (ops:List CmpOp) (rs:List Expr) (k:CmpOp->Expr->Prop) (S:Prop):Prop:=match ops with
 | [op]=>(match rs with | [r]=>k op r | _=>S)
 | _=>S
noncomputable def gX (e:Expr):Bool:=Nat.beq (kE e) 5
noncomputable def g7:Option NameKind->Bool | some .globalImplicit=>true | _=>false
noncomputable def iu (x:Str):Bool:=pw x&&x != "isinstance"&&x != "list"
noncomputable def yp (e:Expr):Bool:=Nat.beq (kE e) 6
noncomputable def nV (e:Expr):Bool:=Nat.ble (kE e) 3
noncomputable def uZ (e:Expr):Bool:=Nat.ble (kE e) 3 || Nat.beq (gE e) 1
noncomputable def mZ (e:Expr):Bool:=Nat.beq (kE e) 0 || Nat.beq (kE e) 4
variable (env:Env) (own:List Addr)
mutual
noncomputable def wpE:Nat->Expr->KE->Loc->Sto->Prop
 | 0,e,Q,ρ,σ=>Stop (WE c n env own e Q ρ σ)
 | f+1,e,Q,ρ,σ=>match e with
  | .Constant k a b=>gW k Q σ (Stop (WE c n env own (.Constant k a b) Q ρ σ))
  | .Name x pos=>g6 (pw x) (ρ.lookup x) (env.kindOf x) Q σ (Stop (WE c n env own (.Name x pos) Q ρ σ))
  | .BinOp l op r _=>wpE f l (ic c n (wpE f) op r Q ρ) ρ σ
  | .Compare l ops rs pos=>ir ops rs (fun op r=>nIf (behindInMarks op r) (wpE f l (ig c n (wpE f) op r Q ρ) ρ σ) (Stop (WE c n env own (.Compare l ops rs pos) Q ρ σ))) (Stop (WE c n env own (.Compare l ops rs pos) Q ρ σ))
  | .UnaryOp op x _=>wpE f x (gM c n op Q) ρ σ
  | .Subscript v i pos=>nIf (gX i) (wpE f v (gN c n (wpE f) v i Q ρ) ρ σ) (Stop (WE c n env own (.Subscript v i pos) Q ρ σ))
  | .Attribute o attr pos=>bIf (nV o) (wpE f o (ij c attr Q) ρ σ) (Stop (WE c n env own (.Attribute o attr pos) Q ρ σ))
  | .Call g as ks pos=>(match ks with
   | []=>(match g with
    | .Name x p=>bIf (iu x&&g7 (env.kindOf x)) (match as with
     | []=>CallTo0 c x (gR c n Q σ)
     | a::as=>nIf ((a::as).any yp) (CallTo c x (kGo c n (nW f) (a::as) Q ρ σ)) (Stop (WE c n env own (.Call (.Name x p) (a::as) [] pos) Q ρ σ))) (Stop (WE c n env own (.Call (.Name x p) as [] pos) Q ρ σ))
    | .Attribute o nm ap=>bIf (uZ o&&(ap.endLine==pos.line&&decide (as.length<30))) (nIf (as.any yp) (wpE f o (ik c n (nW f) nm as Q ρ) ρ σ) (Stop (WE c n env own (.Call (.Attribute o nm ap) as [] pos) Q ρ σ))) (Stop (WE c n env own (.Call (.Attribute o nm ap) as [] pos) Q ρ σ))
    | g=>Stop (WE c n env own (.Call g as [] pos) Q ρ σ))
   | ks=>Stop (WE c n env own (.Call g as ks pos) Q ρ σ))
  | .List es pos=>nIf (es.any yp) (nW f es (il Q) ρ σ) (Stop (WE c n env own (.List es pos) Q ρ σ))
  | .Tuple es k pos=>nIf (es.any yp) (nW f es (gQ Q) ρ σ) (Stop (WE c n env own (.Tuple es k pos) Q ρ σ))
  | e=>Stop (WE c n env own e Q ρ σ)
noncomputable def nW:Nat->List Expr->KL->Loc->Sto->Prop
 | 0,es,Q,ρ,σ=>False
 | f+1,es,Q,ρ,σ=>match es with
  | []=>Q [] σ
  | e::es=>wpE f e (hY (nW f) es Q ρ) ρ σ
noncomputable def wpB:Nat->Expr->KB->Loc->Sto->Prop
 | 0,e,Q,ρ,σ=>Stop (WB c n env own e Q ρ σ)
 | f+1,e,Q,ρ,σ=>match e with
  | .UnaryOp op x pos=>(match op with | .Not=>wpB f x (im Q) ρ σ | op=>Stop (WB c n env own (.UnaryOp op x pos) Q ρ σ))
  | .BoolOp op es _=>wpT f op es Q ρ σ
  | .Compare l ops rs pos=>ir ops rs (fun op r=>nIf (behindInMarks op r) (wpE f l (ig c n (wpE f) op r (lV c n Q) ρ) ρ σ) (Stop (WB c n env own (.Compare l ops rs pos) Q ρ σ))) (Stop (WB c n env own (.Compare l ops rs pos) Q ρ σ))
  | e=>bIf (mZ e) (wpE f e (lV c n Q) ρ σ) (Stop (WB c n env own e Q ρ σ))
noncomputable def wpT:Nat->BoolOp->List Expr->KB->Loc->Sto->Prop
 | 0,op,es,Q,ρ,σ=>Stop (WT c n env own op es Q ρ σ)
 | f+1,op,es,Q,ρ,σ=>match op with
  | .And=>(match es with | []=>Q true σ | e::es=>wpB f e (gS (wpT f .And) es Q ρ) ρ σ)
  | .Or=>(match es with | []=>Q false σ | e::es=>wpB f e (kOr (wpT f .Or) es Q ρ) ρ σ)
end
noncomputable def iw (es:List Expr) (k:Nat) (pos:Pos) (v:CV) (Q:KA) (ρ:Loc) (σ:Sto):Prop:=match v with
 | .tup vs=>(match yD env es with
  | some xs=>bIf (xs.length==vs.length) (Q (puts ρ xs vs) σ) (Stop (WA c n env own (.Tuple es k pos) (.tup vs) Q ρ σ))
  | none=>Stop (WA c n env own (.Tuple es k pos) (.tup vs) Q ρ σ))
 | v=>Stop (WA c n env own (.Tuple es k pos) v Q ρ σ)
noncomputable def wpA (f:Nat) (t:Expr) (v:CV) (Q:KA) (ρ:Loc) (σ:Sto):Prop:=match t with
  | .Name x pos=>bIf (iq (env.kindOf x)) (Q (put ρ x v) σ) (Stop (WA c n env own (.Name x pos) v Q ρ σ))
  | .Subscript o i _=>wpE c n env own f o (io c n (wpE c n env own f) i v Q ρ) ρ σ
  | .Attribute o attr _=>wpE c n env own f o (ip c attr v Q ρ) ρ σ
  | .Tuple es k pos=>iw c n env own es k pos v Q ρ σ
  | t=>Stop (WA c n env own t v Q ρ σ)
noncomputable def gY (e:Expr):Bool:=Nat.beq (kE e) 4
noncomputable def wpS:Nat->List Stmt->KS->Loc->Sto->Prop
 | 0,st,Q,ρ,σ=>Stop (WSS c n env own st Q ρ σ)
 | f+1,st,Q,ρ,σ=>match st with
  | []=>Q .next ρ σ
  | s::rest=>(match s with
   | .Assign ts e pos=>(match ts with
    | []=>Stop (WSS c n env own (.Assign [] e pos::rest) Q ρ σ)
    | t::ts=>(match ts with
     | []=>bIf (mY e&&!yp t) (wpE c n env own 30 e (hZ (wpA c n env own 30) t (kSq (wpS f) rest Q) ρ) ρ σ) (Stop (WSS c n env own (.Assign [t] e pos::rest) Q ρ σ))
     | u::ts=>Stop (WSS c n env own (.Assign (t::u::ts) e pos::rest) Q ρ σ)))
   | .Return o _=>(match o with | some e=>wpE c n env own 30 e (gT Q ρ) ρ σ | none=>Q (.ret .none) ρ σ)
   | .Expr e pos=>bIf (gY e&&!interactive env) (wpE c n env own 30 e (gU (kSq (wpS f) rest Q) ρ) ρ σ) (Stop (WSS c n env own (.Expr e pos::rest) Q ρ σ))
   | .Continue _=>Q .cont ρ σ
   | s=>Stop (WSS c n env own (s::rest) Q ρ σ))
end
section
variable {env:Env} {own:List Addr}
theorem wq {b:Bool} {P S R:Prop} (h:nIf b P S) (h1:b=false->P->R) (h2:S->R):R:=by
 cases b with
 | false=>exact h1 rfl h
 | true=>exact h2 h
theorem xT {b:Bool} {P S R:Prop} (h:bIf b P S) (h1:b=true->P->R) (h2:S->R):R:=by
 cases b with
 | true=>exact h1 rfl h
 | false=>exact h2 h
theorem yT {a b:CV} {k:Int->Int->Prop} {S R:Prop} (h:pX a b k S) (h1:∀ i j,a=.int i->b=.int j->k i j->R) (h2:S->R):R:=by
 cases a with
 | int i=>cases b with
  | int j=>exact h1 i j rfl rfl h
  | _=>exact h2 h
 | _=>exact h2 h
theorem l0 {a b:CV} {k:Str->Str->Prop} {S R:Prop} (h:hX a b k S) (h1:∀ i j,a=.str i->b=.str j->k i j->R) (h2:S->R):R:=by
 cases a with
 | str i=>cases b with
  | str j=>exact h1 i j rfl rfl h
  | _=>exact h2 h
 | _=>exact h2 h
theorem qq {ops:List CmpOp} {rs:List Expr} {k:CmpOp->Expr->Prop} {S R:Prop} (h:ir ops rs k S) (h1:∀ op r,ops=[op]->rs=[r]->k op r->R) (h2:S->R):R:=by
 cases ops with
 | nil=>exact h2 h
 | cons op ops=>cases ops with
  | cons _ _=>exact h2 h
  | nil=>cases rs with
   | nil=>exact h2 h
   | cons r rs=>cases rs with
    | nil=>exact h1 op r rfl rfl h
    | cons _ _=>exact h2 h
theorem wr {e:Expr} {es:List Expr} (h:yp e=false):starEach (e::es) env=(false,eval e env)::starEach es env:=by
 cases e <;> first | rfl | exact Bool.noConfusion h
theorem vE:∀ (es:List Expr),es.any yp=false->(starEach es env).any (·.1)=false
 | [],_=>rfl
 | e::es,h=>by
  rw [List.any_cons,Bool.or_eq_false_iff] at h
  rw [wr h.1,List.any_cons,vE es h.2];rfl
theorem s8 (pos:Pos) (l:List (Bool × Sem Value)):(backTo pos l).any (·.1)=l.any (·.1):=by
 unfold backTo
 induction l with
 | nil=>rfl
 | cons a l ih=>first | (simp only [List.map_cons,List.any_cons];rw [ih]) | (rw [List.any_map];rfl)
variable {c:Cx} {n:Nat}
theorem pZ {op:Operator} {a b:CV} {Q:KE} {σ:Sto} (h:kQ c n op a b Q σ):OW c n VR [a,b] (bin op) Q σ:=by
 cases op
 case Add=>exact yT h (fun i j ea eb h=>by subst ea;subst eb;exact gz h) Stop.go
 case Sub=>exact yT h (fun i j ea eb h=>by subst ea;subst eb;exact gA h) Stop.go
 all_goals exact h.go
theorem vF {op:CmpOp} {a b:CV} {Q:KE} {σ:Sto} (h:pY c n op a b Q σ):OW c n VR [a,b] (cmp op) Q σ:=by
 cases op
 case Eq=>exact yT h (fun i j ea eb h=>by subst ea;subst eb;exact gD h) fun h=>l0 h (fun i j ea eb h=>by subst ea;subst eb;exact gG h) Stop.go
 case NotEq=>exact yT h (fun i j ea eb h=>by subst ea;subst eb;exact gF h) Stop.go
 case Lt=>exact yT h (fun i j ea eb h=>by subst ea;subst eb;exact oLt h) Stop.go
 case LtE=>exact yT h (fun i j ea eb h=>by subst ea;subst eb;exact oLe h) Stop.go
 case Gt=>exact yT h (fun i j ea eb h=>by subst ea;subst eb;exact oGt h) Stop.go
 case GtE=>exact yT h (fun i j ea eb h=>by subst ea;subst eb;exact oGe h) Stop.go
 case Is=>cases b with
  | none=>exact mG h
  | _=>exact h.go
 all_goals exact h.go
theorem oa {op:UnaryOp} {a:CV} {Q:KE} {σ:Sto} (h:kR c n op a Q σ):OW c n VR [a] (una op) Q σ:=by
 cases op
 case USub=>cases a with
  | int i=>exact gB h
  | _=>exact h.go
 case Not=>cases a with
  | bool b=>exact gC h
  | _=>exact h.go
 all_goals exact h.go
theorem qr {a:CV} {Q:KB} {σ:Sto} (h:lV c n Q a σ):OW c n BR [a] tru Q σ:=by
 cases a with
 | bool b=>exact i0 h
 | _=>exact h.go
theorem t0 {x:Str} (h:pw x=true):(x==("__debug__":Str))=false:=by
 unfold pw at h
 simp only [Bool.and_eq_true,bne_iff_ne,ne_eq] at h
 exact beq_eq_false_iff_ne.mpr h.1.1
theorem ix {x:Str} (h:pw x=true):(x==("__classdict__":Str))=false:=by
 unfold pw at h
 simp only [Bool.and_eq_true,bne_iff_ne,ne_eq] at h
 exact beq_eq_false_iff_ne.mpr h.1.2
theorem kX {x:Str} (h:pw x=true):x≠"__name__":=by
 unfold pw at h
 simp only [Bool.and_eq_true,bne_iff_ne,ne_eq] at h
 exact h.2
theorem iy {x:Str} (h:iu x=true):pw x=true:=by
 unfold iu at h
 rw [Bool.and_eq_true,Bool.and_eq_true] at h
 exact h.1.1
theorem l3 {o:Expr} {attr:Str} (h:nV o=true):attributeBase o attr env (eval o env)=eval o env:=by
 cases o <;> first | rfl | exact Bool.noConfusion h
theorem ob {o:Expr} {attr:Str} (h:uZ o=true):attributeBase o attr env (eval o env)=eval o env:=by
 cases o
 case Call g as ks p=>cases g <;> first | rfl | exact Bool.noConfusion h
 all_goals first | rfl | exact Bool.noConfusion h
theorem l4 {o:Expr} {nm:Str} {ap pos:Pos} {es:List Expr} (h:uZ o=true) (hs:es.any yp=false) (hl:(ap.endLine==pos.line&&decide (es.length<30))=true) :
  eval (.Call (.Attribute o nm ap) es [] pos) env=(do
   let ov ← eval o env
   standAt ap.atName
   let (f,first) ← holding [ov] (getMethod ov nm (do return (← importBound o env).getD true))
   callWith pos f first (backTo pos (starEach es env)) (backToKw pos (keywordEach [] env))):=by
 rw [Bool.and_eq_true,decide_eq_true_eq] at hl
 have e:eval (.Call (.Attribute o nm ap) es [] pos) env=(do
  let ov ← attributeBase o nm env (eval o env)
  standAt ap.atName
  methodCall o nm ap pos env ov (es.length+0) (backTo pos (starEach es env)) (backToKw pos (keywordEach [] env))):=by
  rfl
 have hf:methodCallForm (es.length+0) (backTo pos (starEach es env)) (backToKw pos (keywordEach [] env))=true:=by
  unfold methodCallForm
  have h1:(backTo pos (starEach es env)).all (fun x=>!x.1)=true:=by
   have:=vE (env:=env) es hs
   rw [← s8 pos] at this
   rw [List.all_eq_not_any_not]
   simpa using this
  rw [h1]
  show (true&&true&&decide _)=true
  exact decide_eq_true (o102 _ _ hl)
 rw [e,ob h]
 unfold methodCall calleeOf methodCallPos
 rw [hf,hl.1]
 rfl
theorem kY {e:Expr} (h:mZ e=true):isTrue e env (eval e env)=(do let v ← eval e env;standAt e.pos;holding [v] (truthy v)):=by
 cases e <;> first | rfl | exact Bool.noConfusion h
theorem qt {es:List Expr} {pos:Pos} {Q Q':KL} {ρ:Loc} {σ:Sto} (h:WAs c n env own pos es Q ρ σ) (hq:∀ v σ',Q v σ'->Q' v σ'):WAs c n env own pos es Q' ρ σ:=W.mono h fun _ _ _ q299=>zY q299 fun a b=>⟨a,hq _ _ b⟩
theorem wZ {e:Expr} {Q Q':KB} {ρ:Loc} {σ:Sto} (h:WB c n env own e Q ρ σ) (hq:∀ v σ',Q v σ'->Q' v σ'):WB c n env own e Q' ρ σ:=W.mono h fun _ _ _ q300=>zY q300 fun a b=>⟨a,hq _ _ b⟩
theorem OW.monoQ {α γ:Type} {R:Heap->γ->α->Prop} {args:List CV} {f:List Value->Sem α} {Q Q':γ->Sto->Prop} {σ:Sto} (h:OW c n R args f Q σ) (hq:∀ v σ',Q v σ'->Q' v σ'):OW c n R args f Q' σ :=
 .mk fun A s vals hR G V=>wpAny_mono (h.go A s vals hR G V) (fun _ _ x=>let ⟨g,σ',r,G',K,q⟩:=x;⟨g,σ',r,G',K,hq _ _ q⟩) fun _ _ x=>x
theorem qu {k:Option NameKind} (h:iq k=true):k=some .local:=by
 cases k with
 | none=>cases h
 | some k=>cases k <;> first | rfl | exact Bool.noConfusion h
theorem s9 {α:Type} {x:α} {P:Prop} (h:none=some x):P:=by cases h
theorem qv {α:Type} {b:Bool} {x y:α} (h:cond b (some x) none=some y):b=true/\x=y:=by
 cases b with
 | false=>exact s9 h
 | true=>exact ⟨rfl,Option.some.inj h⟩
theorem uj {e:Expr} {x:Str} (h:uY env e=some x):∃ pos,e=.Name x pos/\env.kindOf x=some .local:=by
 cases e
 case Name y pos =>
  have h:=qv h
  exact ⟨pos,h.2 ▸ rfl,h.2 ▸ qu h.1⟩
 all_goals exact s9 h
theorem vG {e:Expr} {es:List Expr} {xs:List Str} (h:yD env (e::es)=some xs):∃ x ys,xs=x::ys/\uY env e=some x/\yD env es=some ys:=by
 refine za (Option.bind_eq_some_iff.mp h) ?_;intro x hx h
 refine za (Option.map_eq_some_iff.mp h) ?_;intro ys hy e
 exact ⟨x,ys,e.symm,hx,hy⟩
theorem nX {Q:KA} {σ:Sto}:∀ {es:List Expr} {xs:List Str} {vs:List CV} {ρ:Loc},yD env es=some xs->xs.length=vs.length->Q (puts ρ xs vs) σ->WNs c n env own ((assignEach es env).map (·.2)) vs Q ρ σ/\(assignEach es env).length=vs.length/\(assignEach es env).findIdx? (·.1)=none
 | [],xs,vs,ρ,hx,hl,h=>by
  cases hx
  cases vs with
  | nil=>exact ⟨h,rfl,rfl⟩
  | cons v vs=>cases hl
 | e::es,xs,vs,ρ,hx,hl,h=>by
  refine zg (vG hx) ?_;intro y ys e1 h1 h2
  subst e1
  refine za (uj h1) ?_;intro pos e1 hk
  subst e1
  cases vs with
  | nil=>cases hl
  | cons v vs =>
   refine zh (nX (es:=es) (vs:=vs) (ρ:=put ρ y v) h2 (Nat.succ.inj hl) h) ?_;intro a b d
   exact ⟨tV (uP hk a),congrArg (·+1) b,List.findIdx?_cons.trans (congrArg (Option.map (·+1)) d)⟩
theorem l5 {x:Str} {pos:Pos} {b:Bool} {o:Option CV} {k:Option NameKind} {Q:KE} {ρ:Loc} {σ:Sto} (h:g6 b o k Q σ (Stop (WE c n env own (.Name x pos) Q ρ σ))) (h1:pw x=b) (h3:ρ.lookup x=o) (h2:env.kindOf x=k):WE c n env own (.Name x pos) Q ρ σ:=by
 cases b with
 | false=>exact h.go
 | true=>cases o with
  | none=>exact h.go
  | some v=>cases k with
   | none=>exact h.go
   | some k =>
    cases k
    case «local»=>exact wh h2 h3 h (t0 h1)
    case cell=>exact jN h2 h3 h (t0 h1)
    case free=>exact jO h2 h3 h (t0 h1) (ix h1)
    all_goals exact h.go
theorem l6 {k:Option NameKind} (h:g7 k=true):k=some .globalImplicit:=by
 cases k with
 | none=>cases h
 | some k=>cases k <;> first | rfl | exact Bool.noConfusion h
theorem jF {a b:Bool} (h:(a&&b)=true):a=true:=by cases a with | true=>rfl | false=>cases h
theorem jG {a b:Bool} (h:(a&&b)=true):b=true:=by cases a with | true=>exact h | false=>cases h
theorem g8 {a:Bool} (h:(!a)=true):a=false:=by cases a with | true=>cases h | false=>rfl
noncomputable def oe (c:Cx) (n:Nat) (env:Env) (own:List Addr) (f:Nat):Prop:=(∀ e Q ρ σ,wpE c n env own f e Q ρ σ->WE c n env own e Q ρ σ)/\(∀ es Q ρ σ,nW c n env own f es Q ρ σ->es.any yp=false->∀ pos,WAs c n env own pos es Q ρ σ)/\(∀ e Q ρ σ,wpB c n env own f e Q ρ σ->WB c n env own e Q ρ σ)/\(∀ op es Q ρ σ,wpT c n env own f op es Q ρ σ->WT c n env own op es Q ρ σ)
theorem g9 {f:Nat} (iE:∀ e Q ρ σ,wpE c n env own f e Q ρ σ->WE c n env own e Q ρ σ) {l r:Expr} {Q:KE} {ρ:Loc} {σ:Sto} {op:CmpOp} (h:wpE c n env own f l (ig c n (wpE c n env own f) op r Q ρ) ρ σ):WE c n env own l (fun a σ₁=>WE c n env own r (fun b σ₂=>OW c n VR [a,b] (cmp op) Q σ₂) ρ σ₁) ρ σ :=
 zE (iE _ _ _ _ h) fun a σ₁ h=>zE (iE _ _ _ _ h) fun b σ₂ h=>vF h
theorem l7 {f:Nat} (ok:oe c n env own f) {g:Expr} {as:List Expr} {ks:List Keyword} {pos:Pos} {Q:KE} {ρ:Loc} {σ:Sto} (h:wpE c n env own (f+1) (.Call g as ks pos) Q ρ σ):WE c n env own (.Call g as ks pos) Q ρ σ:=by
 obtain ⟨iE,iL,-,-⟩:=ok
 have args:∀ {es:List Expr} {ov:List CV} {g:Value} {Q:KE} {ρ:Loc} {σ:Sto} {K:KL} (pos:Pos),nW c n env own f es K ρ σ->es.any yp=false->(∀ vs σ',K vs σ'->OW c n VR (ov++vs) (zQ g) Q σ')->WAs c n env own pos es (fun vs σ₁=>OW c n VR (ov++vs) (zQ g) Q σ₁) ρ σ:=fun pos h h3 hk =>
  qt (iL _ _ _ _ h h3 pos) hk
 have pls:∀ {es:List Expr} (pos:Pos),es.any yp=false->(backTo pos (starEach es env)).any (·.1)=false:=fun pos h=>by rw [s8];exact vE _ h
 have hds:∀ {a:Expr} {as:List Expr},(a::as).any yp=false->starEach (a::as) env=(false,eval a env)::starEach as env:=fun h=>wr (by rw [List.any_cons,Bool.or_eq_false_iff] at h;exact h.1)
 cases ks with
 | cons _ _=>exact h.go
 | nil =>
  cases g
  case Name x p =>
   refine xT h (fun hb h=>?_) Stop.go
   have h1:=iy (jF hb)
   have h2:=l6 (jG hb)
   cases as with
   | nil=>cases h with
    | fn hn hk h=>exact mE h2 hn (t0 h1) (zu hk) h.go
   | cons a as =>
    refine wq h (fun h3 h=>?_) Stop.go
    cases h with
    | fn hn hk h=>exact ki h2 hn (t0 h1) (zu hk) (pls pos h3) (hds h3) (args (ov:=[]) pos h h3 fun vs σ' h=>h.go)
    | bi hn hb h=>exact rZ h2 hn hb (kX h1) (t0 h1) zP (pls pos h3) (hds h3) (args (ov:=[]) pos h h3 fun vs σ' h=>h.go)
    | ty hn hb h=>exact rZ h2 hn hb (kX h1) (t0 h1) yG (pls pos h3) (hds h3) (args (ov:=[]) pos h h3 fun vs σ' h=>h.go)
  case Attribute o nm ap =>
   refine xT h (fun hb h=>?_) Stop.go
   refine wq h (fun h2 h=>?_) Stop.go
   have hc:=l4 (env:=env) (nm:=nm) (jF hb) h2 (jG hb)
   cases as with
   | nil=>exact kj hc (zE (iE _ _ _ _ h) fun ov σ₁ h=>by
     refine zm (h.go) ?_;intro g hm hk h
     refine (zt g hm hk (?_))
     cases f with
     | zero=>exact h.elim
     | succ f=>exact Stop.go h)
   | cons a as=>exact jV hc (pls pos h2) (hds h2) (zE (iE _ _ _ _ h) fun ov σ₁ h=>by
     refine zm (h.go) ?_;intro g hm hk h
     exact (zt g hm hk (args (ov:=[ov]) pos h h2 fun vs σ' h=>h.go)))
  all_goals exact h.go
theorem og {f:Nat} (ok:oe c n env own f) {e:Expr} {Q:KE} {ρ:Loc} {σ:Sto} (h:wpE c n env own (f+1) e Q ρ σ):WE c n env own e Q ρ σ:=by
 have iE:=ok.1
 have iL:=ok.2.1
 cases e
 case Constant k a b=>cases k with
  | int i=>exact gs h
  | str i=>exact gt h
  | bool i=>exact jM h
  | none=>exact jL h
  | _=>exact h.go
 case Name x pos=>exact l5 h rfl rfl rfl
 case BinOp l op r pos=>exact gu (zE (iE _ _ _ _ h) fun a σ₁ h=>zE (iE _ _ _ _ h) fun b σ₂ h=>pZ h)
 case Compare l ops rs pos=>exact qq h (fun op r e1 e2 h=>by subst e1;subst e2;exact wq h (fun hm h=>jP (g9 iE h) hm) Stop.go) Stop.go
 case UnaryOp op x pos=>exact gw (zE (iE _ _ _ _ h) fun a σ₁ h=>oa h)
 case Subscript v i pos=>exact wq h (fun _ h=>gH (zE (iE _ _ _ _ h) fun o σ₁ h=>zE (iE _ _ _ _ h) fun i σ₂ h=>h.go)) Stop.go
 case Attribute o attr pos=>exact xT h (fun hb h=>jY (l3 hb) (zE (iE _ _ _ _ h) fun ov σ₁ h=>h.go)) Stop.go
 case Call g as ks pos=>exact l7 ok h
 case List es pos=>exact wq h (fun hs h=>i7 (qt (iL _ _ _ _ h hs _) fun vs σ₁ h=>⟨h.short,h.go⟩)) Stop.go
 case Tuple es k pos=>exact wq h (fun hs h=>kx (iL _ _ _ _ h hs _)) Stop.go
 all_goals exact h.go
theorem oh {f:Nat} (ok:oe c n env own f) {e:Expr} {Q:KB} {ρ:Loc} {σ:Sto} (h:wpB c n env own (f+1) e Q ρ σ):WB c n env own e Q ρ σ:=by
 have iE:=ok.1
 have iB:=ok.2.2.1
 have val:∀ {e:Expr} {Q:KB} {ρ:Loc} {σ:Sto},bIf (mZ e) (wpE c n env own f e (lV c n Q) ρ σ) (Stop (WB c n env own e Q ρ σ))->WB c n env own e Q ρ σ:=fun h =>
  xT h (fun ht h=>jR (zE (iE _ _ _ _ h) fun v σ₁ h=>qr h) (kY ht)) Stop.go
 cases e
 case UnaryOp op x pos=>cases op with
  | Not=>exact jS (iB _ _ _ _ h)
  | _=>exact h.go
 case BoolOp op es pos=>exact rW (ok.2.2.2 _ _ _ _ _ h)
 case Compare l ops rs pos=>exact qq h (fun op r e1 e2 h=>by subst e1;subst e2;exact wq h (fun hm h=>jQ (zE (g9 iE h) fun a σ₁ h=>zE h fun b σ₂ h=>OW.monoQ h fun v σ₃ h=>qr h) hm) Stop.go) Stop.go
 all_goals exact val h
theorem qw:∀ f,oe c n env own f
 | 0=>⟨fun e Q ρ σ h=>h.go,fun es Q ρ σ h=>h.elim,fun e Q ρ σ h=>h.go,fun op es Q ρ σ h=>h.go⟩
 | f+1=>by
  have ok:=qw f
  refine ⟨fun e Q ρ σ h=>og ok h,fun es Q ρ σ h hs pos=>?_,fun e Q ρ σ h=>oh ok h,fun op es Q ρ σ h=>?_⟩
  ·cases es with
   | nil=>exact kh h
   | cons e es =>
    rw [List.any_cons,Bool.or_eq_false_iff] at hs
    exact rY (wr hs.1) (zE (ok.1 _ _ _ _ h) fun v σ₁ h=>ok.2.1 _ _ _ _ h hs.2 pos)
  ·cases op with
   | And=>cases es with
    | nil=>exact pF h
    | cons e es=>exact kb (wZ (ok.2.2.1 _ _ _ _ h) fun b σ₁ h=>by
      cases b with
      | true=>exact ok.2.2.2 _ _ _ _ _ (h.t rfl)
      | false=>exact h.f rfl)
   | Or=>cases es with
    | nil=>exact pF h
    | cons e es=>exact iW (wZ (ok.2.2.1 _ _ _ _ h) fun b σ₁ h=>by
      cases b with
      | true=>exact h.t rfl
      | false=>exact ok.2.2.2 _ _ _ _ _ (h.f rfl))
theorem yq {f:Nat} {e:Expr} {Q:KE} {ρ:Loc} {σ:Sto} (h:wpE c n env own f e Q ρ σ):WE c n env own e Q ρ σ:=(qw f).1 _ _ _ _ h
theorem se {f:Nat} {e:Expr} {Q:KB} {ρ:Loc} {σ:Sto} (h:wpB c n env own f e Q ρ σ):WB c n env own e Q ρ σ:=(qw f).2.2.1 _ _ _ _ h
theorem sh {f:Nat} {t:Expr} {v:CV} {Q:KA} {ρ:Loc} {σ:Sto} (h:wpA c n env own f t v Q ρ σ):WA c n env own t v Q ρ σ:=by
 cases t
 case Name x pos=>exact xT h (fun hk h=>uP (qu hk) h) Stop.go
 case Subscript o i pos=>exact ku (zE (yq h) fun o σ₁ h=>zE (yq h) fun i σ₂ h=>h.go)
 case Attribute o a pos=>exact kn (zE (yq h) fun ov σ₁ h=>h.go)
 case Tuple es k pos =>
  cases v
  case tup vs =>
   have h:(match yD env es with
    | some xs=>bIf (xs.length==vs.length) (Q (puts ρ xs vs) σ) (Stop (WA c n env own (.Tuple es k pos) (.tup vs) Q ρ σ))
    | none=>Stop (WA c n env own (.Tuple es k pos) (.tup vs) Q ρ σ)):=h
   cases hx:yD env es with
   | none=>rw [hx] at h;exact h.go
   | some xs =>
    rw [hx] at h
    refine xT h (fun hl h=>?_) Stop.go
    refine zh (nX (c:=c) (n:=n) (own:=own) hx (eq_of_beq hl) h) ?_;intro a b d
    exact kC d b a
  all_goals exact h.go
 all_goals exact h.go
theorem qx {st:Stmt} {rest:List Stmt} {Q:KS} {ρ:Loc} {σ:Sto} (h:WS c n env own st (kSq (fun b Q ρ σ=>WSS c n env own b Q ρ σ) rest Q) ρ σ):WSS c n env own (st::rest) Q ρ σ :=
 yM (W.mono h fun g ρ' σ' h=>by cases g <;> exact h)
theorem nY {st:Stmt} {Q Q':KS} {ρ:Loc} {σ:Sto} (h:WS c n env own st Q ρ σ) (hq:∀ f ρ' σ',Q f ρ' σ'->Q' f ρ' σ'):WS c n env own st Q' ρ σ:=W.mono h hq
theorem kZ {e t:Expr} {l:Nat} (h:mY e=true):swapsWith e (some t) l env=pure false:=by
 cases e <;> first | rfl | exact Bool.noConfusion h
theorem qy {e t:Expr} (h:mY e=true):swappedStores [t] e env=pure none:=by
 cases t
 case Tuple=>cases e <;> first | rfl | exact Bool.noConfusion h
 case List=>cases e <;> first | rfl | exact Bool.noConfusion h
 all_goals rfl
theorem oi {t:Expr} (h:yp t=false):(assignEach [t] env).map (·.2)=[assign t env]:=by
 cases t <;> first | rfl | exact Bool.noConfusion h
theorem yH:∀ {f:Nat} {b:List Stmt} {Q:KS} {ρ:Loc} {σ:Sto},wpS c n env own f b Q ρ σ->WSS c n env own b Q ρ σ
 | 0,b,Q,ρ,σ,h=>h.go
 | f+1,b,Q,ρ,σ,h=>by
  have sq:∀ {rest:List Stmt} {Q:KS} (g:CF) (ρ':Loc) (σ':Sto),kSq (wpS c n env own f) rest Q g ρ' σ'->kSq (fun b Q ρ σ=>WSS c n env own b Q ρ σ) rest Q g ρ' σ':=fun g ρ' σ' h=>by
   cases g with
   | next=>exact yH (f:=f) h
   | _=>exact h
  cases b with
  | nil=>exact nM h
  | cons s rest =>
   cases s
   case Assign ts e pos=>cases ts with
    | nil=>exact h.go
    | cons t ts=>cases ts with
     | cons _ _=>exact h.go
     | nil =>
      refine xT h (fun hb h=>?_) Stop.go
      exact qx (vf (zE (yq h) fun v σ₁ h=>xq (sh h) fun ρ' σ' h=>sq _ _ _ h) (kZ (jF hb)) (qy (jF hb)) (oi (g8 (jG hb))))
   case Return o pos=>cases o with
    | some e=>exact yM (jU (zE (yq h) fun v σ₁ h=>h))
    | none=>exact yM (kf h)
   case Expr e pos =>
    cases e
    case Call g as ks p=>exact xT h (fun hb h=>qx (ky (zE (yq h) fun v σ₁ h=>⟨h.1,sq _ _ _ h.2⟩) (g8 (jG hb)) rfl)) Stop.go
    all_goals exact h.go
   case Continue pos=>exact yM (kg h)
   all_goals exact h.go
end
set_option backward.match.sparseCases true

section
variable {c:Cx} {n:Nat} {env:Env} {own:List Addr} {ρ:Loc} {σ:Sto}
theorem Br.pos {v:Bool} {A B:Prop} (h:v=true) (a:A):Br v A B:=⟨fun _=>a,fun e=>by rw [h] at e;cases e⟩
theorem Br.neg {v:Bool} {A B:Prop} (h:v=false) (b:B):Br v A B:=⟨fun e=>by rw [h] at e;(cases e),fun _=>b⟩
theorem Br.nay {v:Bool} {A B:Prop} (h:¬v=true) (b:B):Br v A B:=⟨fun e=>absurd e h,fun _=>b⟩
theorem Br.yes {p:Prop} [Decidable p] {A B:Prop} (h:p) (a:A):Br (decide p) A B:=.pos (decide_eq_true h) a
theorem Br.no {p:Prop} [Decidable p] {A B:Prop} (h:¬p) (b:B):Br (decide p) A B:=.neg (decide_eq_false h) b
theorem Br.eqT {x y:Str} {A B:Prop} (h:x=y) (a:A):Br (x==y) A B:=.pos (beq_iff_eq.mpr h) a
theorem Br.eqF {x y:Str} {A B:Prop} (h:¬x=y) (b:B):Br (x==y) A B:=.neg (beq_eq_false_iff_ne.mpr h) b
theorem Br.zT {x y:Int} {A B:Prop} (h:x=y) (a:A):Br (x==y) A B:=.pos (beq_iff_eq.mpr h) a
theorem Br.zF {x y:Int} {A B:Prop} (h:¬x=y) (b:B):Br (x==y) A B:=.neg (beq_eq_false_iff_ne.mpr h) b
theorem goE {e:Expr} {Q:KE} (h:wpE c n env own 30 e Q ρ σ):WE c n env own e Q ρ σ:=yq h
theorem goB {e:Expr} {Q:KB} (h:wpB c n env own 30 e Q ρ σ):WB c n env own e Q ρ σ:=se h
theorem goT {op:BoolOp} {es:List Expr} {Q:KB} (h:wpT c n env own 30 op es Q ρ σ):WT c n env own op es Q ρ σ:=(qw 30).2.2.2 _ _ _ _ _ h
theorem goA {t:Expr} {v:CV} {Q:KA} (h:wpA c n env own 30 t v Q ρ σ):WA c n env own t v Q ρ σ:=sh h
theorem iz {t b o:Expr} {pos:Pos} {Q:KE} (h:wpB c n env own 30 t (gP (wpE c n env own 30) b o Q ρ) ρ σ):WE c n env own (.IfExp t b o pos) Q ρ σ :=
 nK (wZ (se h) fun v σ₁ h=>by
  cases v with
  | true=>exact yq (h.t rfl)
  | false=>exact yq (h.f rfl))
theorem iA {a k z:Int} {p q:_} {f:Nat} {Q:KE} (e:a+k=z) (h:Q (.int z) σ):ic c n (wpE c n env own (f+1)) .Add (.Constant (.int k) p q) Q ρ (.int a) σ:=by subst e;exact h
theorem iC {a k z:Int} {p q:_} {f:Nat} {Q:KE} (e:a-k=z) (h:Q (.int z) σ):ic c n (wpE c n env own (f+1)) .Sub (.Constant (.int k) p q) Q ρ (.int a) σ:=by subst e;exact h
theorem goS {b:List Stmt} {Q:KS} (h:wpS c n env own 60 b Q ρ σ):WSS c n env own b Q ρ σ:=yH h
theorem goL {es:List Expr} {pos:Pos} {Q:KL} (hs:es.any yp=false) (h:nW c n env own 30 es Q ρ σ):WAs c n env own pos es Q ρ σ:=(qw 30).2.1 _ _ _ _ h hs _
noncomputable def kS (c:Cx) (n:Nat) (env:Env) (own:List Addr) (rest:List Stmt) (Q:KS):KS:=kSq (wpS c n env own 60) rest Q
theorem iD {rest:List Stmt} {Q:KS} (g:CF) (ρ':Loc) (σ':Sto) (h:kS c n env own rest Q g ρ' σ'):kSq (fun b Q ρ σ=>WSS c n env own b Q ρ σ) rest Q g ρ' σ':=by
 cases g with
 | next=>exact yH (f:=60) h
 | _=>exact h
theorem xr {st:Stmt} {rest:List Stmt} {Q:KS} (h:WS c n env own st (kS c n env own rest Q) ρ σ):WSS c n env own (st::rest) Q ρ σ:=qx (nY h iD)
theorem iF {t e:Expr} {pos:Pos} {rest:List Stmt} {Q:KS} (hs:swapsWith e (some t) pos.line env=pure false) (hw:swappedStores [t] e env=pure none) (ht:(assignEach [t] env).map (·.2)=[assign t env]) (h:wpE c n env own 30 e (hZ (wpA c n env own 30) t (kS c n env own rest Q) ρ) ρ σ):WSS c n env own (.Assign [t] e pos::rest) Q ρ σ :=
 xr (vf (zE (yq h) fun v σ₁ h=>xq (sh h) fun ρ' σ' h=>h) hs hw ht)
theorem iG {v:Bool} {A B:Prop} (h:Br v A B):if v=true then A else B:=by
 cases v with
 | true=>exact h.t rfl
 | false=>exact h.f rfl
theorem l9 {l r₁ r₂:Expr} {op1 op2:CmpOp} {pos:Pos} {Q:KB} (hm:lastMarks (op1::op2::[]) (r₁::r₂::[])=false)
  (h:wpE c n env own 30 l (fun a σ₁=>wpE c n env own 30 r₁ (fun b σ₂=>pY c n op1 a b (fun v σ₃=>∃ t,v=.bool t/\Br t (wpE c n env own 30 r₂ (fun d σ₄=>pY c n op2 b d (fun v σ₅=>∃ t,v=.bool t/\Q t σ₅) σ₄) ρ σ₃) (Q false σ₃)) σ₂) ρ σ₁) ρ σ):WB c n env own (.Compare l [op1,op2] [r₁,r₂] pos) Q ρ σ :=
 mQ (zE (yq h) fun a σ₁ h=>zE (yq h) fun b σ₂ h=>OW.monoQ (vF h) fun v σ₃ h=>by
  refine za (h) ?_;intro t e h
  refine (z0 t e (?_))
  cases t with
  | true=>exact zE (yq (h.t rfl)) fun d σ₄ h=>vF h
  | false=>exact h.f rfl) hm
theorem qz {e e':Expr} {es:List Expr} {pos:Pos} {Q:KE} (h:wpE c n env own 30 e (fun v σ₁=>∃ b,v=.bool b/\Br b (WE c n env own (.BoolOp .And (e'::es) pos) Q ρ σ₁) (Q (.bool false) σ₁)) ρ σ):WE c n env own (.BoolOp .And (e::e'::es) pos) Q ρ σ :=
 qn (zE (yq h) fun v σ₁ h=>by refine za (h) ?_;intro b e h;exact (z0 b e (iG h)))
noncomputable def gd (c:Cx) (n:Nat) (env:Env) (own:List Addr) (b o:List Stmt) (Q:KS) (ρ:Loc):KB:=fun v σ=>Br v (wpS c n env own 60 b Q ρ σ) (wpS c n env own 60 o Q ρ σ)
theorem gZ {t:Expr} {b o:List Stmt} {pos:Pos} {rest:List Stmt} {Q:KS} (h:wpB c n env own 30 t (gd c n env own b o (kS c n env own rest Q) ρ) ρ σ):WSS c n env own (.If t b o pos::rest) Q ρ σ :=
 xr (jT (wZ (se h) fun v σ₁ h=>by
  cases v with
  | true=>exact yH (h.t rfl)
  | false=>exact yH (h.f rfl)))
theorem y4 {t:Expr} {b o:List Stmt} {pos:Pos} {rest:List Stmt} {v:Bool} {Q:KS} (h:IsB c n env own t v ρ σ) (ht:v=true->wpS c n env own 60 b (kS c n env own rest Q) ρ σ) (hf:v=false->wpS c n env own 60 o (kS c n env own rest Q) ρ σ):WSS c n env own (.If t b o pos::rest) Q ρ σ :=
 xr (pT h (fun e=>yH (ht e)) fun e=>yH (hf e))
structure Lap {α:Type} (T:α->Loc->Sto->Prop) (r:α) (ρ:Loc) (σ:Sto):Prop where
 go:T r ρ σ
structure Turns (J:List CV->Loc->Sto->Prop) (T:List CV->Loc->Sto->Prop):Prop where
 to:∀ {r ρ3 σ₃},(∃ ρ0,Subs ρ3 ρ0/\J r ρ0 σ₃)->Lap T r ρ3 σ₃
noncomputable def iH (T:List CV->Loc->Sto->Prop) (Q:KS) (r:List CV):KS:=fun f ρ σ=>match f with
 | .next=>Lap T r ρ σ
 | .cont=>Lap T r ρ σ
 | .brk=>Q .next ρ σ
 | .ret v=>Q (.ret v) ρ σ
noncomputable def iI (c:Cx) (n:Nat) (env:Env) (own:List Addr) (body:List Stmt) (Q:KS):KA:=fun ρ σ=>wpS c n env own 60 body Q ρ σ
noncomputable def iJ (c:Cx) (n:Nat) (env:Env) (own:List Addr) (tgt:Expr) (body:List Stmt) (T:List CV->Loc->Sto->Prop) (Q:KS) (xs:List CV) (ρ:Loc) (σ:Sto):Prop:=match xs with
 | []=>Q .next ρ σ
 | x::r=>wpA c n env own 30 tgt x (iI c n env own body (iH T Q r)) ρ σ
theorem yI {tgt iter:Expr} {body:List Stmt} {pos:Pos} {rest:List Stmt} {Q:KS}
  (h:WIt c n env own tgt iter (fun xs src σ₁=>∃ J:List CV->Loc->Sto->Prop,(∃ ρ0,Subs ρ ρ0/\J xs ρ0 σ₁)/\∀ T,Turns J T->∀ xs ρ' σ',J xs ρ' σ'->src σ'/\iJ c n env own tgt body T (kS c n env own rest Q) xs ρ' σ') ρ σ)
  (hs:∀ x,foldedSetIterable iter env x=pure x):WSS c n env own (.For tgt iter body [] pos::rest) Q ρ σ :=
 xr (nT (yS h fun xs src σ₁ _ q301=>za q301 fun J hJ step=>(z0 J hJ (fun xs ρ' σ' hj=>by
  obtain ⟨a,b⟩:=step (fun r ρ3 σ₃=>∃ ρ0,Subs ρ3 ρ0/\J r ρ0 σ₃) ⟨fun h=>⟨h⟩⟩ xs ρ' σ' hj
  refine ⟨a,?_⟩
  cases xs with
  | nil=>exact b
  | cons x r=>exact xq (sh b) fun ρ2 σ₂ h=>W.mono (yH h) fun f ρ3 σ₃ h=>by cases f <;> first | exact h | exact h.go))) hs)
structure TurnsW (J:Nat->Loc->Sto->Prop) (T:Nat->Loc->Sto->Prop):Prop where
 to:∀ {k ρ3 σ₃},(∃ m ρ0,m<k/\Subs ρ3 ρ0/\J m ρ0 σ₃)->Lap T k ρ3 σ₃
noncomputable def j0 (T:Nat->Loc->Sto->Prop) (Q:KS) (k:Nat):KS:=fun f ρ σ=>match f with
 | .next=>Lap T k ρ σ
 | .cont=>Lap T k ρ σ
 | .brk=>Q .next ρ σ
 | .ret v=>Q (.ret v) ρ σ
noncomputable def j3 (c:Cx) (n:Nat) (env:Env) (own:List Addr) (body:List Stmt) (T:Nat->Loc->Sto->Prop) (Q:KS) (k:Nat) (ρ:Loc):KB:=fun b σ=>Br b (wpS c n env own 60 body (j0 T Q k) ρ σ) (Q .next ρ σ)
theorem xc {test:Expr} {body:List Stmt} {pos:Pos} {rest:List Stmt} {Q:KS} (J:Nat->Loc->Sto->Prop) (k:Nat) (h0:∃ ρ0,Subs ρ ρ0/\J k ρ0 σ)
  (step:∀ T,TurnsW J T->∀ k ρ' σ',J k ρ' σ'->WB c n env own test (j3 c n env own body T (kS c n env own rest Q) k ρ') ρ' σ'):WSS c n env own (.While test body [] pos::rest) Q ρ σ :=
 xr (pS J k h0 fun k ρ' σ' hj=>wZ (step (fun k ρ3 σ₃=>∃ m ρ0,m<k/\Subs ρ3 ρ0/\J m ρ0 σ₃) ⟨fun h=>⟨h⟩⟩ k ρ' σ' hj) fun b σ₁ h=>by
  cases b with
  | true=>exact W.mono (yH (h.t rfl)) fun f ρ3 σ₃ h=>by cases f <;> first | exact h | exact h.go
  | false=>exact h.f rfl)
noncomputable def ge (P:Loc->Sto->Prop) (Q:KS):KS:=fun f ρ σ=>match f with
 | .next=>∃ ρ0,Subs ρ ρ0/\P ρ0 σ
 | f=>Q f ρ σ
theorem j4 {st:Stmt} {rest:List Stmt} {Q:KS} (P:Loc->Sto->Prop) (h:WS c n env own st (ge P Q) ρ σ) (hr:∀ ρ1 σ₁,P ρ1 σ₁->wpS c n env own 60 rest Q ρ1 σ₁):WSS c n env own (st::rest) Q ρ σ :=
 kL P (nY h fun f ρ' σ' h=>by cases f <;> exact h) fun ρ1 σ₁ h=>yH (hr ρ1 σ₁ h)
theorem wt {t:Expr} {b o:List Stmt} {pos:Pos} {rest:List Stmt} {Q:KS} (P:Loc->Sto->Prop) (h:wpB c n env own 30 t (gd c n env own b o (ge P Q) ρ) ρ σ) (hr:∀ ρ1 σ₁,P ρ1 σ₁->wpS c n env own 60 rest Q ρ1 σ₁):WSS c n env own (.If t b o pos::rest) Q ρ σ :=
 j4 P (jT (wZ (se h) fun v σ₁ h=>by
  cases v with
  | true=>exact yH (h.t rfl)
  | false=>exact yH (h.f rfl))) hr
theorem j5 {elts:List Expr} {k:Nat} {tp pos:Pos} {e:Expr} {names:List Str} {rest:List Stmt} {Q:KS} (hs:swapsWithSole [.Tuple elts k tp] e pos.line env=pure false) (hw:swappedStores [.Tuple elts k tp] e env=pure (some names))
  (h:WE c n env own e (fun v σ₁=>∃ vs,v=.tup vs/\vs.length=names.length/\WNs c n env own (names.reverse.map fun x=>bindName env x) vs.reverse (fun ρ2 σ₂=>kS c n env own rest Q .next ρ2 σ₂) ρ σ₁) ρ σ):WSS c n env own (.Assign [.Tuple elts k tp] e pos::rest) Q ρ σ:=xr (kD hs hw h)
end

noncomputable def cnt (xs:List Int) (k:Int):Nat:=(xs.filter (fun x=>decide (x<=k))).length
theorem xU (xs:List Int) (k:Int):cnt xs k<=xs.length:=List.length_filter_le ..
theorem j6 {xs:List Int} {k:Int} (hs:xs.Pairwise (·<=·)):∀ {m:Nat} {x:Int},xs[m]?=some x->(x<=k↔m<cnt xs k):=by
 induction xs with
 | nil=>intro m x h;simp at h
 | cons a r ih =>
  intro m x h
  have hr:=@ih (List.Pairwise.of_cons hs)
  have ha:=(List.pairwise_cons.mp hs).1
  by_cases hak:a<=k
  ·have e:cnt (a::r) k=cnt r k+1:=by simp [cnt,hak]
   cases m with
   | zero=>simp at h;subst h;rw [e];exact ⟨fun _=>by exact o103 _,fun _=>hak⟩
   | succ m=>rw [e,hr (by simpa using h)];exact o104 _ _
  ·have e0:cnt r k=0:=by
    unfold cnt
    rw [List.length_eq_zero_iff,List.filter_eq_nil_iff]
    intro b hb
    have:=ha b hb
    simp;exact o105 _ _ _ this hak
   have e:cnt (a::r) k=0:=by
    have:cnt (a::r) k=cnt r k:=by simp [cnt,hak]
    exact o106 _ _ this e0
   cases m with
   | zero=>simp at h;subst h;rw [e];exact ⟨fun z=>absurd z hak,fun z=>by exact o107 _ _ z⟩
   | succ m =>
    have:=hr (m:=m) (x:=x) (by simpa using h)
    rw [e,this,e0];exact o108 _
noncomputable def like:CV->CV->Bool
 | .none,.none=>true
 | .bool a,.bool b=>a==b
 | .int a,.int b=>a==b
 | .str a,.str b=>a==b
 | _,_=>false
theorem qA {a b:CV} (h:like a b=true):a=b:=by
 cases a with
 | none=>cases b <;> first | rfl | exact Bool.noConfusion h
 | bool i=>cases b <;> first | exact congrArg _ (eq_of_beq h) | exact Bool.noConfusion h
 | int i=>cases b <;> first | exact congrArg _ (eq_of_beq h) | exact Bool.noConfusion h
 | str i=>cases b <;> first | exact congrArg _ (eq_of_beq h) | exact Bool.noConfusion h
 | _=>exact Bool.noConfusion h
noncomputable abbrev RM:=List (Int × CV)
structure RMok (ps:RM):Prop where
 up:ps.Pairwise (fun p q=>p.1<q.1)
 zero:∃ v r,ps=(0,v)::r
noncomputable def rget (ps:RM) (k:Int):CV:=(((ps.filter (fun p=>decide (p.1<=k))).getLast?).map (·.2)).getD .none
theorem yV:∀ {ps:RM},ps.Pairwise (fun p q=>p.1<q.1)->∀ k,ps.take (cnt (ps.map (·.1)) k)=ps.filter (fun p=>decide (p.1<=k))/\ps.drop (cnt (ps.map (·.1)) k)=ps.filter (fun p=>decide (k<p.1))
 | [],_,k=>by simp [cnt]
 | (a,v)::r,h,k=>by
  have ih:=yV (List.Pairwise.of_cons h) k
  have ha:=(List.pairwise_cons.mp h).1
  by_cases hak:a<=k
  ·have e:cnt (((a,v)::r).map (·.1)) k=cnt (r.map (·.1)) k+1:=by simp [cnt,hak]
   rw [e,List.take_succ_cons,List.drop_succ_cons,ih.1,ih.2]
   have h2:¬ k<a:=by exact o109 _ _ hak
   simp [hak,h2]
  ·have e0:∀ p∈r,¬ p.1<=k:=fun p hp=>by have:=ha p hp;simp at this;exact o110 _ _ _ this hak
   have e1:r.filter (fun p=>decide (p.1<=k))=[]:=by rw [List.filter_eq_nil_iff];intro p hp;simpa using e0 p hp
   have e2:r.filter (fun p=>decide (k<p.1))=r:=by rw [List.filter_eq_self];intro p hp;have:=e0 p hp;simp;exact o111 _ _ this
   have e:cnt (((a,v)::r).map (·.1)) k=0:=by
    have e3:(r.map (·.1)).filter (fun x=>decide (x<=k))=[]:=by rw [List.filter_eq_nil_iff];intro x hx;refine za (List.mem_map.mp hx) ?_;intro p hp q302;obtain rfl:=q302;simpa using e0 p hp
    simp [cnt,hak,e3]
   rw [e]
   have h2:k<a:=by exact o111 _ _ hak
   simp [hak,e1,h2,e2]
theorem RMok.cnt_pos {ps:RM} (h:RMok ps) {k:Int} (hk:0<=k):0<cnt (ps.map (·.1)) k:=by
 refine zL (h.zero) ?_;intro v r q303;obtain rfl:=q303
 simp [cnt,hk]
theorem RMok.get {ps:RM} (h:RMok ps) {k:Int} (hk:0<=k):(ps.map (·.2))[cnt (ps.map (·.1)) k-1]?=some (rget ps k):=by
 have hp:=h.cnt_pos hk
 have hle:=xU (ps.map (·.1)) k
 rw [List.length_map] at hle
 have e:=(yV h.up k).1
 unfold rget
 rw [← e,List.getLast?_eq_getElem?,List.length_take,Nat.min_eq_left hle,List.getElem?_take,if_pos (o112 _ hp),List.getElem?_map]
 have:cnt (ps.map (·.1)) k-1<ps.length:=by exact o113 _ _ hp hle
 rw [List.getElem?_eq_getElem this];rfl
noncomputable def rnew (ps:RM) (f l:Int) (v:CV):RM :=
 let behind:=rget ps (l+1)
 let nw:RM:=if like behind v then [(f,v)] else [(f,v),(l+1,behind)]
 if like (rget ps (f-1)) v then nw.drop 1 else nw
noncomputable def rput (ps:RM) (f l:Int) (v:CV):RM:=ps.filter (fun p=>decide (p.1<=f-1))++rnew ps f l v++ps.filter (fun p=>decide (l+1<p.1))
theorem vH {ps:RM} {f l:Int} {v:CV} {p:Int × CV} (h:p∈rnew ps f l v):p=(f,v)∨p=(l+1,rget ps (l+1)):=by
 unfold rnew at h
 dsimp only at h
 split at h <;> split at h <;> simp at h <;> simp [h]
theorem lg {ps:RM} (h:RMok ps) {f l:Int} {v:CV} (h1:1<=f) (h2:f<=l):RMok (rput ps f l v):=by
 refine ⟨?_,?_⟩
 ·unfold rput
  rw [List.append_assoc,List.pairwise_append,List.pairwise_append]
  refine ⟨h.up.filter _,⟨?_,h.up.filter _,?_⟩,?_⟩
  ·unfold rnew
   dsimp only
   split <;> split <;> simp <;> exact o114 _ _ h2
  ·intro p hp q hq
   have hq':l+1<q.1:=by simpa using (List.mem_filter.mp hq).2
   rcases vH hp with rfl | rfl <;> simp <;> (first | exact o115 _ _ _ hq' h2 | exact o116 _ _ hq')
  ·intro p hp q hq
   have hp':p.1<=f-1:=by simpa using (List.mem_filter.mp hp).2
   rcases List.mem_append.mp hq with hq | hq
   ·rcases vH hq with rfl | rfl <;> simp <;> (first | exact o117 _ _ hp' | exact o118 _ _ _ hp' h2)
   ·have hq':l+1<q.1:=by simpa using (List.mem_filter.mp hq).2
    exact o119 _ _ _ _ hq' hp' h2
 ·refine zL (h.zero) ?_;intro w r q304;obtain rfl:=q304
  refine (zZ w ((r.filter (fun p=>decide (p.1<=f-1))++rnew ((0,w)::r) f l v++((0,w)::r).filter (fun p=>decide (l+1<p.1)))) (?_))
  unfold rput
  have:decide ((0:Int)<=f-1)=true:=by simp;exact o120 _ h1
  rw [List.filter_cons_of_pos (by simpa using this)]
  simp
theorem xt {ps:RM} {k:Int} (h:∀ p∈ps,k<p.1):ps.filter (fun p=>decide (p.1<=k))=[]:=by
 rw [List.filter_eq_nil_iff];intro p hp;have:=h p hp;simp;exact o121 _ _ this
theorem oj {ps:RM} (h:RMok ps) {f l:Int} {v:CV} (h1:1<=f) (h2:f<=l) {k:Int} (hk:0<=k):rget (rput ps f l v) k=if f<=k/\k<=l then v else rget ps k:=by
 have part:(rput ps f l v).filter (fun p=>decide (p.1<=k))=(ps.filter (fun p=>decide (p.1<=f-1))).filter (fun p=>decide (p.1<=k))++(rnew ps f l v).filter (fun p=>decide (p.1<=k))++(ps.filter (fun p=>decide (l+1<p.1))).filter (fun p=>decide (p.1<=k)):=by
  unfold rput;rw [List.filter_append,List.filter_append]
 have hv1:like (rget ps (f-1)) v=true->rget ps (f-1)=v:=qA
 have hv2:like (rget ps (l+1)) v=true->rget ps (l+1)=v:=qA
 have nonempty:∃ p,(ps.filter (fun p=>decide (p.1<=f-1))).getLast?=some p/\rget ps (f-1)=p.2:=by
  have hne:ps.filter (fun p=>decide (p.1<=f-1))≠[]:=by
   refine zL (h.zero) ?_;intro w r q305;obtain rfl:=q305
   rw [List.filter_cons_of_pos (by simp;exact o120 _ h1)];simp
  refine (z0 _ (List.getLast?_eq_some_getLast hne) (?_))
  unfold rget
  rw [List.getLast?_eq_some_getLast hne];rfl
 by_cases c1:k<f
 ·have e2:(rnew ps f l v).filter (fun p=>decide (p.1<=k))=[]:=xt fun p hp=>by rcases vH hp with rfl | rfl <;> simp <;> (first | exact o121 _ _ c1 | exact o122 _ _ _ c1 h2)
  have e3:(ps.filter (fun p=>decide (l+1<p.1))).filter (fun p=>decide (p.1<=k))=[]:=xt fun p hp=>by
   have:l+1<p.1:=by simpa using (List.mem_filter.mp hp).2
   exact o123 _ _ _ _ this c1 h2
  have e1:(ps.filter (fun p=>decide (p.1<=f-1))).filter (fun p=>decide (p.1<=k))=ps.filter (fun p=>decide (p.1<=k)):=by
   rw [List.filter_filter]
   refine List.filter_congr fun p _=>?_
   simp;exact o124 _ _ _ c1
  rw [if_neg (o125 _ _ _ c1)]
  unfold rget
  rw [part,e1,e2,e3];simp
 ·have e1:(ps.filter (fun p=>decide (p.1<=f-1))).filter (fun p=>decide (p.1<=k))=ps.filter (fun p=>decide (p.1<=f-1)):=by
   rw [List.filter_filter]
   refine List.filter_congr fun p _=>?_
   simp;exact o126 _ _ _ c1
  refine za (nonempty) ?_;intro p₀ hp0 hpv
  by_cases c2:k<=l
  ·rw [if_pos ⟨by exact o127 _ _ c1,c2⟩]
   have e3:(ps.filter (fun p=>decide (l+1<p.1))).filter (fun p=>decide (p.1<=k))=[]:=xt fun p hp=>by
    have:l+1<p.1:=by simpa using (List.mem_filter.mp hp).2
    exact o115 _ _ _ this c2
   have hfk:f<=k:=by exact o127 _ _ c1
   have hlk:¬ l+1<=k:=by exact o128 _ _ c2
   unfold rget
   rw [part,e1,e3,List.append_nil]
   generalize ps.filter (fun p=>decide (p.1<=f-1))=X at hp0
   unfold rnew
   dsimp only
   by_cases a:like (rget ps (l+1)) v=true <;> by_cases b:like (rget ps (f-1)) v=true <;> simp only [a,b,if_true,if_false,Bool.false_eq_true]
   ·simp [hp0,← hpv,hv1 b]
   ·simp [hfk]
   ·simp [hlk,hp0,← hpv,hv1 b]
   ·simp [hfk,hlk]
  ·rw [if_neg (o129 _ _ _ c2)]
   have hfk:f<=k:=by exact o127 _ _ c1
   have hlk:l+1<=k:=by exact o130 _ _ c2
   have old:ps.filter (fun p=>decide (p.1<=k))=ps.filter (fun p=>decide (p.1<=l+1))++(ps.filter (fun p=>decide (l+1<p.1))).filter (fun p=>decide (p.1<=k)):=by
    have split:∀ {ps:RM},ps.Pairwise (fun p q=>p.1<q.1)->ps.filter (fun p=>decide (p.1<=k))=ps.filter (fun p=>decide (p.1<=l+1))++(ps.filter (fun p=>decide (l+1<p.1))).filter (fun p=>decide (p.1<=k)):=by
     intro ps
     induction ps with
     | nil=>intro _;simp
     | cons a r ih =>
      intro hs
      have ih:=ih (List.Pairwise.of_cons hs)
      have ha:=(List.pairwise_cons.mp hs).1
      by_cases q:a.1<=l+1
      ·have q2:¬ l+1<a.1:=by exact o131 _ _ q
       have q3:a.1<=k:=by exact o132 _ _ _ q c2
       simp [q,q2,q3,ih]
      ·have q2:l+1<a.1:=by exact o133 _ _ q
       have e5:r.filter (fun p=>decide (p.1<=l+1))=[]:=xt fun p hp=>by have:=ha p hp;exact o134 _ _ _ this q
       rw [e5] at ih
       by_cases q3:a.1<=k <;> simp [q,q2,q3,ih,e5]
    exact split h.up
   have nl:∃ p,(ps.filter (fun p=>decide (p.1<=l+1))).getLast?=some p/\rget ps (l+1)=p.2:=by
    have hne:ps.filter (fun p=>decide (p.1<=l+1))≠[]:=by
     refine zL (h.zero) ?_;intro w r q306;obtain rfl:=q306
     rw [List.filter_cons_of_pos (by simp;exact o135 _ _ h1 h2)];simp
    refine (z0 _ (List.getLast?_eq_some_getLast hne) (?_))
    unfold rget
    rw [List.getLast?_eq_some_getLast hne];rfl
   refine za (nl) ?_;intro p₁ hp1 hpw
   have lhs:rget (rput ps f l v) k=((((ps.filter (fun p=>decide (l+1<p.1))).filter (fun p=>decide (p.1<=k))).getLast?).map (·.2)).getD (rget ps (l+1)):=by
    unfold rget
    rw [part,e1,List.getLast?_append]
    cases ((ps.filter (fun p=>decide (l+1<p.1))).filter (fun p=>decide (p.1<=k))).getLast? with
    | some q=>rfl
    | none =>
     rw [hp1]
     generalize ps.filter (fun p=>decide (p.1<=f-1))=X at hp0
     unfold rnew
     dsimp only
     by_cases a:like (rget ps (l+1)) v=true <;> by_cases b:like (rget ps (f-1)) v=true <;> simp only [a,b,if_true,if_false,Bool.false_eq_true]
     ·simp [hp0,← hpv,hv1 b,← hpw,hv2 a]
     ·simp [hfk,← hpw,hv2 a]
     ·simp [hlk,hpw]
     ·simp [hfk,hlk,hpw]
   rw [lhs]
   conv=>rhs;unfold rget
   rw [old,List.getLast?_append]
   cases ((ps.filter (fun p=>decide (l+1<p.1))).filter (fun p=>decide (p.1<=k))).getLast? with
   | some q=>rfl
   | none=>simp [hp1,hpw]

noncomputable def SKP:List Str:=["Extend","Format","ZWJ"]
noncomputable def ENDS:List Str:=["CR","LF","Newline"]
noncomputable def LETTERS:List Str:=["ALetter","Hebrew_Letter"]
noncomputable def PLAIN:List Str:=["ALetter","Hebrew_Letter","Numeric"]
noncomputable def JOINED:List Str:=["ALetter","Hebrew_Letter","Numeric","Katakana"]
noncomputable def INLET:List Str:=["MidLetter","MidNumLet","Single_Quote"]
noncomputable def INNUM:List Str:=["MidNum","MidNumLet","Single_Quote"]
noncomputable def ze (row:List Str) (i:Int):Str:=if 0<=i/\i<row.length then row.getD i.toNat "" else ""
noncomputable def skp (row:List Str) (i:Int):Bool:=SKP.contains (ze row i)
noncomputable def endd (row:List Str) (i:Int):Bool:=ENDS.contains (ze row i)
noncomputable def scn (row:List Str):Nat->Int
 | 0=>-1
 | i+1=>if skp row i then scn row i else i
noncomputable def lft (row:List Str):Nat->Int
 | 0=>-1
 | i+1=>if skp row i&&decide (0<=lft row i)&&!endd row (lft row i) then lft row i else i
noncomputable def plft (row:List Str) (at_:Nat):Int:=let j:=scn row at_;if j<(at_:Int)-1/\(j<0∨endd row j=true) then j+1 else j
theorem uk (row:List Str):∀ i,-1<=scn row i/\scn row i<i
 | 0=>by simp [scn]
 | i+1=>by
  have:=uk row i
  unfold scn;split <;> (first | exact o136 _ _ this | exact o137 _)
theorem t9 (row:List Str):∀ i (j:Int),scn row i<j->j<i->skp row j=true
 | 0,j,h1,h2=>by simp [scn] at h1;exact (o138 _ h1 h2).elim
 | i+1,j,h1,h2=>by
  unfold scn at h1
  split at h1
  ·rename_i h
   by_cases q:j=i
   ·subst q;exact h
   ·exact t9 row i j h1 (o139 _ _ h2 q)
  ·exact (o140 _ _ h1 h2).elim
theorem yE {row:List Str} {i:Int} (h:skp row i=true):endd row i=false:=by
 unfold skp SKP at h
 unfold endd ENDS
 simp only [List.contains_cons,List.contains_nil,Bool.or_false,Bool.or_eq_true,beq_iff_eq] at h
 rcases h with h | h | h <;> rw [h] <;> decide
theorem w6 (row:List Str):∀ i,lft row i=plft row i
 | 0=>by simp [lft,plft,scn]
 | i+1=>by
  have ih:=w6 row i
  obtain ⟨b1,b2⟩:=uk row i
  have hs:=t9 row i
  unfold lft
  rw [ih]
  unfold plft at *
  dsimp only at *
  have e:scn row (i+1)=if skp row i then scn row i else (i:Int):=rfl
  rw [e]
  generalize scn row i=j at *
  by_cases hk:skp row i=true
  ·simp only [hk,if_true,Bool.true_and]
   by_cases hj:j<0
   ·have hj':j=-1:=by exact o141 _ b1 hj
    subst hj'
    have h0:(-1:Int)<((i+1:Nat):Int)-1:=by exact o142 _
    rw [if_pos (c:=(-1:Int)<((i+1:Nat):Int)-1/\_) ⟨h0,.inl (by decide)⟩]
    by_cases hi:i=0
    ·subst hi;simp
    ·have h2:(-1:Int)<(i:Int)-1:=by exact o143 _ hi
     have h3:skp row 0=true:=hs 0 (by exact o144) (o145 _ h2)
     have h4:=yE h3
     rw [if_pos (c:=(-1:Int)<(i:Int)-1/\_) ⟨h2,.inl (by decide)⟩]
     simp [h4]
   ·by_cases he:endd row j=true
    ·have h0:j<((i+1:Nat):Int)-1:=by exact o146 _ _ b2
     rw [if_pos (c:=j<((i+1:Nat):Int)-1/\_) ⟨h0,.inr he⟩]
     by_cases hi:j<(i:Int)-1
     ·have h4:=yE (hs (j+1) (o147 _) (o148 _ _ hi))
      rw [if_pos (c:=j<(i:Int)-1/\_) ⟨hi,.inr he⟩]
      have:decide (0<=j+1)=true:=by simp;exact o149 _ hj
      simp [h4,this]
     ·rw [if_neg (c:=j<(i:Int)-1/\_) (fun z=>hi z.1)]
      simp [he];exact o150 _ _ b2 hi
    ·rw [if_neg (c:=j<((i+1:Nat):Int)-1/\_) (fun z=>z.2.elim hj he),if_neg (c:=j<(i:Int)-1/\_) (fun z=>z.2.elim hj he)]
     have h5:decide (0<=j)=true:=by simp;exact o151 _ hj
     simp at he
     simp [he,h5]
  ·simp only [hk,if_false,Bool.false_and,Bool.false_eq_true]
   rw [if_neg (o152 _ _)]
theorem si (row:List Str) (i:Nat):-1<=lft row i/\lft row i<i:=by
 rw [w6];unfold plft
 obtain ⟨b1,b2⟩:=uk row i
 dsimp only
 split <;> (first | exact o153 _ _ _ b1 (by assumption) | exact o154 _ _ b1 b2)
theorem v6 (row:List Str) {i:Nat} (h:0<i):0<=lft row i:=by
 rw [w6];unfold plft
 obtain ⟨b1,b2⟩:=uk row i
 dsimp only
 split
 ·exact o155 _ b1
 ·rename_i h2
  by_cases hj:scn row i<0
  ·exact absurd ⟨by exact o156 _ _ h hj,.inl hj⟩ h2
  ·exact o151 _ hj
noncomputable def rgt (row:List Str):Nat->Nat->Nat
 | 0,at_=>at_
 | f+1,at_=>if at_<row.length/\skp row at_=true then rgt row f (at_+1) else at_
noncomputable def flg (row:List Str):Nat->Int->Nat
 | 0,_=>0
 | f+1,i=>if 0<=i/\ze row i = "Regional_Indicator" then flg row f (lft row i.toNat)+1 else 0
theorem sj (row:List Str):∀ (f:Nat) (i:Int),i<f->∀ k,flg row (f+k) i=flg row f i
 | 0,i,h,k=>by
  have h1:¬ 0<=i:=by exact o157 _ h
  cases k with
  | zero=>rfl
  | succ k=>simp [flg,h1]
 | f+1,i,h,k=>by
  rw [show f+1+k=(f+k)+1 by exact o158 _ _]
  unfold flg
  by_cases hc:0<=i/\ze row i = "Regional_Indicator"
  ·rw [if_pos hc,if_pos hc,sj row f _ (by have:=si row i.toNat;exact o159 _ _ _ this h) k]
  ·rw [if_neg hc,if_neg hc]
noncomputable def bridges (one between other:Str):Bool :=
 if LETTERS.contains one&&LETTERS.contains other&&INLET.contains between then true
 else if one=="Numeric"&&other=="Numeric" then INNUM.contains between
 else one=="Hebrew_Letter"&&other=="Hebrew_Letter"&&between=="Double_Quote"
noncomputable def pjoin (here after beyond far:Str) (odd:Bool):Bool :=
 if after=="ExtendNumLet" then here==after || JOINED.contains here
 else if here=="ExtendNumLet" then JOINED.contains after
 else if here=="Katakana" || after=="Katakana" then here==after
 else if here=="Regional_Indicator" then after==here&&odd
 else if PLAIN.contains here&&PLAIN.contains after then true
 else if here=="Hebrew_Letter"&&after=="Single_Quote" then true
 else if PLAIN.contains here then bridges here after beyond
 else if PLAIN.contains after then bridges far here after
 else false
noncomputable def fuel (row:List Str):Nat:=row.length+2
noncomputable def joined (row:List Str) (at_:Nat):Bool :=
 let left:=lft row at_
 pjoin (ze row left) (ze row at_) (ze row (rgt row (fuel row) (at_+1))) (ze row (lft row left.toNat)) (flg row (fuel row) left % 2==1)
noncomputable def rule (row:List Str) (pic:Nat->Bool) (at_:Int):Bool :=
 if at_<=0∨(row.length:Int)<=at_ then decide (0<row.length)
 else
  let before:=ze row (at_-1)
  let after:=ze row at_
  if before=="CR"&&after=="LF" then false
  else if ENDS.contains before || ENDS.contains after then true
  else if before=="ZWJ"&&pic at_.toNat then false
  else if before=="WSegSpace"&&after=="WSegSpace" then false
  else if SKP.contains after then false
  else !joined row at_.toNat

noncomputable def alg (row:List Str) (i:Nat):Bool:=skp row i&&decide (0<i)&&!endd row ((i:Int)-1)
noncomputable def stk (row:List Str):Nat->List Nat
 | 0=>[]
 | i+1=>if alg row i=true then stk row i else i::stk row i
theorem ol (row:List Str) (i:Nat):endd row (lft row (i+1))=endd row i:=by
 show endd row (if (skp row i&&decide (0<=lft row i)&&!endd row (lft row i))=true then lft row i else (i:Int))=_
 split
 ·rename_i h
  simp only [Bool.and_eq_true,Bool.not_eq_true',decide_eq_true_eq] at h
  rw [h.2,yE h.1.1]
 ·rfl
theorem j7 (row:List Str) (i:Nat):alg row i=(skp row i&&decide (0<=lft row i)&&!endd row (lft row i)):=by
 cases i with
 | zero=>simp [alg,lft]
 | succ j =>
  unfold alg
  have:=v6 row (Nat.succ_pos j)
  rw [ol,show (((j+1:Nat):Int)-1)=(j:Int) by exact o36 _]
  simp [this]
theorem om (row:List Str) (i:Nat):lft row (i+1)=if alg row i=true then lft row i else (i:Int):=by rw [j7];rfl
theorem xu {row:List Str}:∀ {i j:Nat} {t:List Nat},stk row i=j::t->t=stk row j/\j<i/\alg row j=false/\lft row i=j
 | 0,j,t,h=>by simp [stk] at h
 | i+1,j,t,h=>by
  unfold stk at h
  rw [om]
  by_cases q:alg row i=true
  ·rw [if_pos q] at h ⊢
   refine yL (xu h) ?_;intro h1 h2 h3 h4
   exact ⟨h1,by exact o160 _ _ h2,h3,h4⟩
  ·rw [if_neg q] at h ⊢
   simp only [List.cons.injEq] at h
   obtain ⟨rfl,rfl⟩:=h
   exact ⟨rfl,Nat.lt_succ_self _,by simpa using q,rfl⟩
theorem vI (row:List Str):∀ {i:Nat},0<i->∃ j t,stk row i=j::t
 | i+1,_=>by
  unfold stk
  by_cases q:alg row i=true
  ·rw [if_pos q]
   cases i with
   | zero=>simp [alg] at q
   | succ i=>exact vI row (Nat.succ_pos i)
  ·rw [if_neg q];exact (zZ _ _ rfl)
theorem qB {row:List Str} {i:Nat} (h:stk row i=[]):i=0:=by
 cases i with
 | zero=>rfl
 | succ i=>refine zL (vI row (Nat.succ_pos i)) ?_;intro j t e;rw [e] at h;cases h
noncomputable def ss (row:List Str) (i:Nat):List Str:=(stk row i).map fun j=>ze row (j:Nat)
noncomputable def wL (s:Str):Bool:=s=="Regional_Indicator"
theorem nZ (row:List Str):∀ (f i:Nat),i<=f->flg row f (lft row i)=((ss row i).takeWhile wL).length
 | 0,i,h=>by
  have:i=0:=by exact o161 _ h
  subst this;rfl
 | f+1,i,h=>by
  cases e:stk row i with
  | nil =>
   obtain rfl:=qB e
   unfold flg
   rw [if_neg (fun z=>absurd z.1 (by show ¬ (0:Int)<=-1;decide))]
   rfl
  | cons j t =>
   refine yL (xu e) ?_;intro h1 h2 h3 h4
   rw [h4]
   have hs:ss row i=ze row (j:Nat)::ss row j:=by unfold ss;rw [e,h1];rfl
   rw [hs]
   show (if (0:Int)<=(j:Int)/\ze row (j:Nat) = "Regional_Indicator" then flg row f (lft row (j:Int).toNat)+1 else 0)=_
   by_cases q:ze row (j:Nat) = "Regional_Indicator"
   ·rw [if_pos ⟨by exact o162 _,q⟩,List.takeWhile_cons_of_pos (by unfold wL;exact beq_iff_eq.mpr q),List.length_cons,Int.toNat_natCast,nZ row f j (o163 _ _ _ h2 h)]
   ·rw [if_neg (fun z=>q z.2),List.takeWhile_cons_of_neg (by unfold wL;exact fun z=>q (eq_of_beq z))];rfl
noncomputable def bey:List Str->Str
 | []=>""
 | s::r=>if SKP.contains s=true then bey r else s
theorem zr {row:List Str} {i:Nat} (h:i<row.length):ze row i=row[i]:=by
 unfold ze
 rw [if_pos (o164 _ _ h)]
 simp [h]
theorem yW {row:List Str} {i:Nat} (h:row.length<=i):ze row i = "":=by
 unfold ze
 rw [if_neg (o165 _ _ h)]
theorem qC (row:List Str):∀ (f p:Nat),row.length<=p+f->ze row (rgt row f p:Nat)=bey (row.drop p)
 | 0,p,h=>by
  show ze row p=_
  rw [yW (o166 _ _ h),List.drop_of_length_le (o166 _ _ h)];rfl
 | f+1,p,h=>by
  show ze row (if p<row.length/\skp row p=true then rgt row f (p+1) else p:Nat)=_
  by_cases hp:p<row.length
  ·rw [List.drop_eq_getElem_cons hp]
   unfold bey
   by_cases q:skp row p=true
   ·have q':=q
    unfold skp at q'
    rw [zr hp] at q'
    rw [if_pos ⟨hp,q⟩,if_pos q',qC row f (p+1) (o167 _ _ _ h)]
   ·have q':=q
    unfold skp at q'
    rw [zr hp] at q'
    rw [if_neg (fun z=>q z.2),if_neg q',zr hp]
  ·rw [if_neg (fun z=>hp z.1),yW (o89 _ _ hp),List.drop_of_length_le (o89 _ _ hp)];rfl
noncomputable def odd (st:List Str):Bool:=(st.takeWhile wL).length % 2==1
theorem qD {row:List Str} {i:Nat} (h0:0<i) (hi:i<row.length):joined row i=pjoin ((ss row i).headD "") (ze row i) (bey (row.drop (i+1))) ((ss row i).tail.headD "") (odd (ss row i)):=by
 refine zL (vI row h0) ?_;intro j t e
 refine yL (xu e) ?_;intro h1 h2 h3 h4
 have hs:ss row i=ze row (j:Nat)::ss row j:=by unfold ss;rw [e,h1];rfl
 have hf:(flg row (fuel row) (lft row i) % 2==1)=odd (ss row i):=by
  unfold odd;rw [nZ row _ _ (by unfold fuel;exact o168 _ _ hi)]
 unfold joined
 dsimp only
 rw [hf,h4,qC row _ _ (by unfold fuel;exact o169 _ _),hs,Int.toNat_natCast]
 have hfar:ze row (lft row j)=(ss row j).headD "":=by
  cases e2:stk row j with
  | nil =>
   obtain rfl:=qB e2
   rfl
  | cons k u =>
   refine yL (xu e2) ?_;intro g1 g2 g3 g4
   rw [g4];unfold ss;rw [e2];rfl
 rw [hfar]
 rfl
noncomputable def dec (before:Str) (st:List Str) (after:Str) (pic:Bool) (beyond:Str):Bool :=
 if before=="CR"&&after=="LF" then false
 else if ENDS.contains before || ENDS.contains after then true
 else if before=="ZWJ"&&pic then false
 else if before=="WSegSpace"&&after=="WSegSpace" then false
 else if SKP.contains after then false
 else !pjoin (st.headD "") after beyond (st.tail.headD "") (odd st)
theorem yU {row:List Str} {pic:Nat->Bool} {i:Nat} (h0:0<i) (hi:i<row.length):rule row pic (i:Nat)=dec (ze row ((i:Int)-1)) (ss row i) (ze row i) (pic i) (bey (row.drop (i+1))):=by
 unfold rule dec
 rw [if_neg (o170 _ _ h0 hi)]
 dsimp only
 rw [Int.toNat_natCast,qD h0 hi]
theorem y5 {row:List Str} {pic:Nat->Bool}:rule row pic 0=decide (0<row.length):=by unfold rule;rw [if_pos (o171 _)]
theorem xw {row:List Str} {pic:Nat->Bool} {i:Nat} (h:row.length<=i):rule row pic (i:Nat)=decide (0<row.length):=by unfold rule;rw [if_pos (o172 _ _ h)]

noncomputable def along (p:Option Str) (s:Str):Bool:=SKP.contains s&&(match p with | none=>false | some q=>!ENDS.contains q)
noncomputable def wQ (p:Option Str) (l:List Str):Option Str:=match l.getLast? with | none=>p | some x=>some x
noncomputable def hist:Option Str->List Str->List Str->List Str
 | _,acc,[]=>acc
 | p,acc,s::r=>hist (some s) (if along p s=true then acc else s::acc) r
theorem re (p:Option Str) (s:Str) (l:List Str):wQ p (s::l)=wQ (some s) l:=by
 unfold wQ
 cases l with
 | nil=>rfl
 | cons a l=>rw [List.getLast?_cons_cons];cases e:(a::l).getLast? with
  | none=>simp at e
  | some x=>rfl
theorem vJ:∀ (l₁ l₂:List Str) (p:Option Str) (acc:List Str),hist p acc (l₁++l₂)=hist (wQ p l₁) (hist p acc l₁) l₂
 | [],l₂,p,acc=>rfl
 | s::l₁,l₂,p,acc=>by
  rw [re]
  exact vJ l₁ l₂ (some s) _
theorem sk:∀ (l:List Str) (p:Option Str) (a b:List Str),hist p (a++b) l=hist p a l++b
 | [],p,a,b=>rfl
 | s::l,p,a,b=>by
  unfold hist
  rw [← sk l]
  congr 1
  split <;> rfl
theorem qE (l:List Str) (s:Str) (p:Option Str) (acc:List Str):hist p acc (l++[s])=if along (wQ p l) s=true then hist p acc l else s::hist p acc l:=by
 rw [vJ];rfl
theorem qF {row:List Str} {i:Nat} (h:i<row.length):alg row i=along (wQ none (row.take i)) row[i]:=by
 unfold alg along skp
 rw [zr h]
 cases i with
 | zero=>simp [wQ]
 | succ j =>
  have e:(row.take (j+1)).getLast?=some row[j]:=by
   rw [List.take_succ_eq_append_getElem (o173 _ _ h),List.getLast?_concat]
  unfold wQ
  rw [e]
  unfold endd
  rw [show (((j+1:Nat):Int)-1)=(j:Int) by exact o36 _,zr (o173 _ _ h)]
  simp
theorem xE (row:List Str):∀ (i:Nat),i<=row.length->ss row i=hist none [] (row.take i)
 | 0,_=>by simp [ss,stk,hist]
 | i+1,h=>by
  have ih:=xE row i (o174 _ _ h)
  rw [List.take_succ_eq_append_getElem (o175 _ _ h),qE,← qF (o175 _ _ h),← ih]
  unfold ss
  rw [show stk row (i+1)=if alg row i=true then stk row i else i::stk row i from rfl]
  by_cases q:alg row i=true
  ·rw [if_pos q,if_pos q]
  ·rw [if_neg q,if_neg q,List.map_cons,zr (o175 _ _ h)]
noncomputable abbrev AL:Str:="ALetter"
theorem qG:SKP.contains AL=false:=of_decide_eq_true (by kernel_rfl)
theorem w7:PLAIN.contains AL=true:=of_decide_eq_true (by kernel_rfl)
theorem iK:wL AL=false:=of_decide_eq_true (by kernel_rfl)
theorem oo {a b f f':Str} {o:Bool}:pjoin AL a b f o=pjoin AL a b f' o:=by
 unfold pjoin
 rw [if_pos (c:=PLAIN.contains AL=true) w7,if_pos (c:=PLAIN.contains AL=true) w7]
theorem qH {h b b' f:Str} {o:Bool}:pjoin h AL b f o=pjoin h AL b' f o:=by
 unfold pjoin
 by_cases q:PLAIN.contains h=true
 ·have hh:(PLAIN.contains h&&PLAIN.contains AL)=true:=by rw [q,w7];rfl
  simp only [hh,if_true]
 ·rw [if_neg q,if_neg q]
theorem qI (D:List Str) (h:List Str):odd (D++AL::h)=odd D:=by
 unfold odd
 have:∀ D:List Str,(D++AL::h).takeWhile wL=D.takeWhile wL:=fun D=>by
  induction D with
  | nil=>rw [List.nil_append,List.takeWhile_cons_of_neg (by rw [iK];decide)];rfl
  | cons a D ih =>
   rw [List.cons_append]
   cases q:wL a with
   | true=>rw [List.takeWhile_cons_of_pos q,List.takeWhile_cons_of_pos q,ih]
   | false=>rw [List.takeWhile_cons_of_neg (by rw [q];decide),List.takeWhile_cons_of_neg (by rw [q];decide)]
 rw [this]
theorem lh {before after beyond:Str} {pic:Bool} (D h:List Str):dec before (D++AL::AL::h) after pic beyond=dec before (D++AL::h) after pic beyond:=by
 unfold dec
 rw [qI,qI]
 have:pjoin ((D++AL::AL::h).headD "") after beyond ((D++AL::AL::h).tail.headD "") (odd D)=pjoin ((D++AL::h).headD "") after beyond ((D++AL::h).tail.headD "") (odd D):=by
  match D with
  | []=>exact oo
  | [x]=>rfl
  | x::z::D=>rfl
 rw [this]
theorem j8 {before beyond beyond':Str} {st:List Str} {pic:Bool}:dec before st AL pic beyond=dec before st AL pic beyond':=by
 unfold dec
 rw [qH (b:=beyond) (b':=beyond')]
theorem qJ {b f:Str} {o:Bool}:pjoin AL AL b f o=true:=by
 unfold pjoin
 rw [if_pos (c:=(PLAIN.contains AL&&PLAIN.contains AL)=true) (by rw [w7];rfl)]
 have h1:(AL=="ExtendNumLet")=false:=of_decide_eq_true (by kernel_rfl)
 have h2:(AL=="Katakana" || AL=="Katakana")=false:=of_decide_eq_true (by kernel_rfl)
 have h3:(AL=="Regional_Indicator")=false:=of_decide_eq_true (by kernel_rfl)
 simp only [h1,h2,h3,Bool.false_eq_true,if_false]
theorem oq {beyond:Str} {h:List Str}:dec AL (AL::h) AL false beyond=false:=by
 unfold dec
 have h1:(AL=="CR"&&AL=="LF")=false:=of_decide_eq_true (by kernel_rfl)
 have h2:(ENDS.contains AL || ENDS.contains AL)=false:=of_decide_eq_true (by kernel_rfl)
 have h3:(AL=="ZWJ"&&false)=false:=of_decide_eq_true (by kernel_rfl)
 have h4:(AL=="WSegSpace"&&AL=="WSegSpace")=false:=of_decide_eq_true (by kernel_rfl)
 have h5:pjoin ((AL::h).headD "") AL beyond ((AL::h).tail.headD "") (odd (AL::h))=true:=qJ
 simp only [h1,h2,h3,h4,h5,qG,Bool.false_eq_true,if_false,Bool.not_true]
theorem vK (A B:List Str):hist none [] (A++AL::B)=hist (some AL) [] B++AL::hist none [] A:=by
 rw [vJ]
 show hist (some AL) (if along (wQ none A) AL=true then _ else AL::hist none [] A) B=_
 have:along (wQ none A) AL=false:=by unfold along;rw [qG];rfl
 rw [if_neg (by rw [this];decide)]
 exact sk B (some AL) [] _
theorem ot (A B:List Str):hist none [] (A++AL::AL::B)=hist (some AL) [] B++AL::AL::hist none [] A:=by
 have e1:A++AL::AL::B=(A++[AL])++AL::B:=by simp
 have e2:hist none [] (A++[AL])=AL::hist none [] A:=vK A []
 rw [e1,vK,e2]
theorem li (l:List Str) (a b:List Str):bey (l++AL::a)=bey (l++AL::b):=by
 induction l with
 | nil=>unfold bey;rw [List.nil_append,List.nil_append];simp only [qG,Bool.false_eq_true,if_false]
 | cons s l ih =>
  rw [List.cons_append,List.cons_append]
  unfold bey
  rw [ih]
noncomputable def fl (L:List (Str × Bool)):List Bool:=(List.range L.length).map fun i=>rule (L.map (·.1)) (fun i=>(L[i]?.map (·.2)).getD false) (i:Nat)
theorem zS (L:List (Str × Bool)):(fl L).length=L.length:=by simp [fl]
theorem ou {L:List (Str × Bool)} {i:Nat} (h:i<L.length):(fl L)[i]?=some (rule (L.map (·.1)) (fun i=>(L[i]?.map (·.2)).getD false) (i:Nat)):=by
 unfold fl;rw [List.getElem?_map,List.getElem?_range h];rfl
theorem j9 (A B:List (Str × Bool)):fl (A++(AL,false)::(AL,false)::B)=(fl (A++(AL,false)::B)).take (A.length+1)++false::(fl (A++(AL,false)::B)).drop (A.length+1):=by
 have hm1:(A++(AL,false)::B).map (·.1)=A.map (·.1)++AL::B.map (·.1):=by simp
 have hm2:(A++(AL,false)::(AL,false)::B).map (·.1)=A.map (·.1)++AL::AL::B.map (·.1):=by simp
 have hl1:(A++(AL,false)::B).length=A.length+(B.length+1):=by simp
 have hl2:(A++(AL,false)::(AL,false)::B).length=A.length+(B.length+2):=by simp
 have hA:(A.map (·.1)).length=A.length:=List.length_map ..
 have hB:(B.map (·.1)).length=B.length:=List.length_map ..
 have ht:((fl (A++(AL,false)::B)).take (A.length+1)).length=A.length+1:=by rw [List.length_take,zS,hl1];exact o176 _ _
 refine List.ext_getElem? fun i=>?_
 by_cases hi:i<A.length+(B.length+2)
 case neg =>
  rw [List.getElem?_eq_none_iff.mpr (by rw [zS,hl2];exact o177 _ _ _ hi),List.getElem?_eq_none_iff.mpr (by simp only [List.length_append,List.length_cons,List.length_drop,ht,zS,hl1];exact o178 _ _ _ hi)]
 rw [ou (by rw [hl2];exact hi),hm2]
 generalize hA':A.map (·.1)=A' at *
 generalize hB':B.map (·.1)=B' at *
 by_cases h1:i<A.length+1
 ·-- ahead
  rw [List.getElem?_append_left (by rw [ht];exact h1),List.getElem?_take,if_pos h1,ou (by rw [hl1];exact o179 _ _ _ h1),hm1]
  congr 1
  cases i with
  | zero=>rw [show ((0:Nat):Int)=0 from rfl,y5,y5];simp;exact o180 _ _
  | succ i =>
   rw [yU (o103 _) (by simp;exact o181 _ _ _ _ _ hi hA hB),yU (o103 _) (by simp;exact o182 _ _ _ _ h1 hA)]
   have hp:(((A++(AL,false)::(AL,false)::B)[i+1]?).map (·.2)).getD false=(((A++(AL,false)::B)[i+1]?).map (·.2)).getD false:=by
    by_cases q:i+1<A.length
    ·rw [List.getElem?_append_left q,List.getElem?_append_left q]
    ·have:i+1=A.length:=by exact o183 _ _ h1 q
     rw [List.getElem?_append_right (o184 _ _ q),List.getElem?_append_right (o184 _ _ q),this];simp
   have hs1:ze (A'++AL::AL::B') (((i+1:Nat):Int)-1)=ze (A'++AL::B') (((i+1:Nat):Int)-1):=by
    rw [show (((i+1:Nat):Int)-1)=(i:Int) by exact o36 _,zr (by simp;exact o185 _ _ _ _ _ hi hA hB),zr (by simp;exact o186 _ _ _ _ _ hi hA hB),List.getElem_append_left (o187 _ _ _ h1 hA),List.getElem_append_left (o187 _ _ _ h1 hA)]
   have hst:ss (A'++AL::AL::B') (i+1)=ss (A'++AL::B') (i+1):=by
    rw [xE _ _ (by simp;exact o188 _ _ _ _ _ hi hA hB),xE _ _ (by simp;exact o189 _ _ _ _ _ hi hA hB),List.take_append_of_le_length (o190 _ _ _ h1 hA),List.take_append_of_le_length (o190 _ _ _ h1 hA)]
   rw [hp,hs1,hst]
   by_cases q:i+1<A.length
   ·rw [zr (by simp;exact o181 _ _ _ _ _ hi hA hB),zr (by simp;exact o191 _ _ _ _ q hA),List.getElem_append_left (o192 _ _ _ q hA),List.getElem_append_left (o192 _ _ _ q hA),List.drop_append_of_le_length (o193 _ _ _ q hA),List.drop_append_of_le_length (o193 _ _ _ q hA),li _ (AL::B') B']
   ·have e:i+1=A'.length:=by exact o194 _ _ _ h1 hA q
    have h3:ze (A'++AL::AL::B') (i+1:Nat)=AL:=by rw [zr (by simp;exact o181 _ _ _ _ _ hi hA hB)];simp [e]
    have h4:ze (A'++AL::B') (i+1:Nat)=AL:=by rw [zr (by simp;exact o182 _ _ _ _ h1 hA)];simp [e]
    rw [h3,h4]
    exact j8
 ·rw [List.getElem?_append_right (by rw [ht];exact o195 _ _ h1),ht]
  by_cases h2:i=A.length+1
  ·-- between
   subst h2
   rw [Nat.sub_self,List.getElem?_cons_zero]
   congr 1
   rw [yU (o103 _) (by simp;exact o196 _ _ _ hA)]
   have h3:ze (A'++AL::AL::B') (A.length+1:Nat)=AL:=by
    rw [zr (by simp;exact o196 _ _ _ hA),List.getElem_append_right (o197 _ _ hA)];simp [hA]
   have h4:ze (A'++AL::AL::B') (((A.length+1:Nat):Int)-1)=AL:=by
    rw [show (((A.length+1:Nat):Int)-1)=(A.length:Int) by exact o36 _,zr (by simp;exact o198 _ _ _ hA),List.getElem_append_right (o199 _ _ hA)];simp [hA]
   have h5:ss (A'++AL::AL::B') (A.length+1)=AL::hist none [] A':=by
    rw [xE _ _ (by simp;exact o200 _ _ _ hA)]
    have:(A'++AL::AL::B').take (A.length+1)=A'++AL::[]:=by rw [← hA,List.take_append];simp;exact List.take_of_length_le (o45 _)
    rw [this,vK];rfl
   have hp:(((A++(AL,false)::(AL,false)::B)[A.length+1]?).map (·.2)).getD false=false:=by
    rw [List.getElem?_append_right (o45 _)];simp
   rw [h3,h4,h5,hp]
   exact oq
  ·-- behind
   obtain ⟨m,rfl⟩:∃ m,i=A.length+1+(m+1):=⟨i-A.length-2,by exact o201 _ _ h1 h2⟩
   rw [show A.length+1+(m+1)-(A.length+1)=m+1 by exact o202 _ _,List.getElem?_cons_succ,List.getElem?_drop,ou (by rw [hl1];exact o203 _ _ _ hi),hm1]
   congr 1
   rw [yU (o204 _ _) (by simp;exact o205 _ _ _ _ _ hi hA hB),yU (o206 _ _) (by simp;exact o207 _ _ _ _ _ hi hA hB)]
   have hp:(((A++(AL,false)::(AL,false)::B)[A.length+1+(m+1)]?).map (·.2)).getD false=(((A++(AL,false)::B)[A.length+1+m]?).map (·.2)).getD false:=by
    rw [List.getElem?_append_right (o208 _ _),List.getElem?_append_right (o209 _ _),show A.length+1+(m+1)-A.length=m+1+1 by exact o210 _ _,show A.length+1+m-A.length=m+1 by exact o211 _ _];rfl
   have g:∀ k,ze (A'++AL::AL::B') (A.length+1+k:Nat)=ze (A'++AL::B') (A.length+k:Nat):=fun k=>by
    by_cases q:k<B.length+1
    ·rw [zr (by simp;exact o212 _ _ _ _ _ q hA hB),zr (by simp;exact o213 _ _ _ _ _ q hA hB),List.getElem_append_right (o214 _ _ _ hA),List.getElem_append_right (o215 _ _ _ hA)]
     simp only [show A.length+1+k-A'.length=k+1 by exact o216 _ _ _ hA,show A.length+k-A'.length=k by exact o217 _ _ _ hA,List.getElem_cons_succ]
    ·rw [yW (by simp;exact o218 _ _ _ _ _ hA hB q),yW (by simp;exact o219 _ _ _ _ _ hA hB q)]
   have h3:ze (A'++AL::AL::B') (A.length+1+(m+1):Nat)=ze (A'++AL::B') (A.length+1+m:Nat):=by
    have:=g (m+1);rw [show A.length+(m+1)=A.length+1+m by exact o220 _ _] at this;exact this
   have h4:ze (A'++AL::AL::B') (((A.length+1+(m+1):Nat):Int)-1)=ze (A'++AL::B') (((A.length+1+m:Nat):Int)-1):=by
    have:=g m
    rw [show (((A.length+1+(m+1):Nat):Int)-1)=((A.length+1+m:Nat):Int) by exact o221 _ _,show (((A.length+1+m:Nat):Int)-1)=((A.length+m:Nat):Int) by exact o222 _ _];exact this
   have t1:(A'++AL::AL::B').take (A.length+1+(m+1))=A'++AL::AL::B'.take m:=by
    rw [← hA,List.take_append,List.take_of_length_le (o208 _ _)];simp [show A'.length+1+(m+1)-A'.length=m+2 by exact o223 _ _]
   have t2:(A'++AL::B').take (A.length+1+m)=A'++AL::B'.take m:=by
    rw [← hA,List.take_append,List.take_of_length_le (o209 _ _)];simp [show A'.length+1+m-A'.length=m+1 by exact o211 _ _]
   have d1:(A'++AL::AL::B').drop (A.length+1+(m+1)+1)=(A'++AL::B').drop (A.length+1+m+1):=by
    rw [show A.length+1+(m+1)+1=A'.length+(m+3) by exact o224 _ _ _ hA,show A.length+1+m+1=A'.length+(m+2) by exact o225 _ _ _ hA,List.drop_append,List.drop_append]
    simp only [List.drop_of_length_le (show A'.length<=A'.length+(m+3) by exact o226 _ _),List.drop_of_length_le (show A'.length<=A'.length+(m+2) by exact o227 _ _),Nat.add_sub_cancel_left];rfl
   rw [hp,h3,h4,d1,xE _ _ (by simp;exact o228 _ _ _ _ _ hi hA hB),xE _ _ (by simp;exact o229 _ _ _ _ _ hi hA hB),t1,t2,ot,vK]
   exact lh _ _

noncomputable def LET:List Int:=[97,65,98,66,223,83,115,452,453,454]
noncomputable def casd (k:Int):Bool:=LET.contains k
noncomputable def stl (k:Int):Int:=if k=97 then 65 else if k=98 then 66 else if k=115 then 83 else if k=452 then 453 else if k=454 then 453 else k
noncomputable def low (k:Int):Int:=if k=65 then 97 else if k=66 then 98 else if k=83 then 115 else if k=452 then 454 else if k=453 then 454 else k
noncomputable def ttl (k:Int):List Int:=if k=223 then [83,115] else [stl k]
noncomputable def yk:Bool->List Int->List (List Int)
 | _,[]=>[]
 | b,c::r=>if casd c=true then (if b=true then [low c] else ttl c)::yk true r else [c]::yk b r
noncomputable def trn:Bool->List (Bool × Int)->List (List Int)
 | _,[]=>[]
 | b,e::r=>if casd e.2=true then (if (b&&!e.1)=true then [low e.2] else ttl e.2)::trn true r else [e.2]::trn (b&&!e.1) r
noncomputable def exT (f:Bool) (c:Int):List (Bool × Int):=if c=223 then [(f,83),(false,115)] else [(f,stl c)]
noncomputable def ex:Bool->List (Bool × Int)->List (Bool × Int)
 | _,[]=>[]
 | b,e::r=>if casd e.2=true then (if (b&&!e.1)=true then [(e.1,low e.2)] else exT e.1 e.2)++ex true r else e::ex (b&&!e.1) r
theorem oy {c:Int} (h:casd c=true):c∈LET:=by unfold casd at h;exact List.contains_iff_mem.mp h
theorem yX {c:Int} {P:Int->Prop} (h:casd c=true) (h1:P 97) (h2:P 65) (h3:P 98) (h4:P 66) (h5:P 223) (h6:P 83) (h7:P 115) (h8:P 452) (h9:P 453) (h10:P 454):P c:=by
 have:=oy h
 simp only [LET,List.mem_cons,List.not_mem_nil,or_false] at this
 rcases this with rfl | rfl | rfl | rfl | rfl | rfl | rfl | rfl | rfl | rfl <;> assumption
theorem m0 {c:Int} (h:casd c=true):casd (low c)=true/\low (low c)=low c:=by
 refine yX (P:=fun c=>casd (low c)=true/\low (low c)=low c) h ?_ ?_ ?_ ?_ ?_ ?_ ?_ ?_ ?_ ?_ <;> decide
theorem m9 {c:Int} (h:casd c=true) (h':c≠223):casd (stl c)=true/\ttl (stl c)=[stl c]/\stl c≠223:=by
 refine yX (P:=fun c=>c≠223->casd (stl c)=true/\ttl (stl c)=[stl c]/\stl c≠223) h ?_ ?_ ?_ ?_ ?_ ?_ ?_ ?_ ?_ ?_ h' <;> decide
theorem lj {c:Int} (h:casd c=false):low c=c:=by
 unfold low
 repeat' split
 all_goals first | rfl | (subst_vars;exact absurd h (by decide))
theorem qK:∀ (L:List (Bool × Int)) (b:Bool),(ex b L).map (·.2)=(trn b L).flatten
 | [],b=>rfl
 | (f,c)::r,b=>by
  unfold ex trn
  by_cases h:casd c=true
  ·simp only [h,if_true,List.flatten_cons,List.map_append,qK r true]
   congr 1
   split
   ·rfl
   ·unfold exT ttl;split <;> rfl
  ·simp only [if_neg h,List.flatten_cons,List.map_cons,qK r];rfl
theorem ul:∀ (L:List (Bool × Int)) (b:Bool),(trn b (ex b L)).flatten=(ex b L).map (·.2)
 | [],b=>rfl
 | (f,c)::r,b=>by
  unfold ex
  by_cases h:casd c=true
  ·simp only [h,if_true,List.map_append]
   cases hb:(b&&!f) with
   | true =>
    obtain ⟨h1,h2⟩:=m0 h
    simp only [if_true,List.singleton_append,List.map_cons,List.map_nil]
    unfold trn
    simp only [h1,hb,if_true,List.flatten_cons,h2,ul r true,List.singleton_append]
   | false =>
    simp only [Bool.false_eq_true,if_false]
    unfold exT
    by_cases q:c=223
    ·simp only [q,if_true,List.cons_append,List.nil_append,List.map_cons,List.map_nil]
     have e1:casd 83=true:=by decide
     have e2:casd 115=true:=by decide
     have e3:ttl 83=[83]:=by decide
     have e4:low 115=115:=by decide
     rw [trn]
     simp only [e1,hb,if_true,Bool.false_eq_true,if_false,List.flatten_cons,e3]
     rw [trn]
     simp only [e2,if_true,Bool.not_false,Bool.and_true,List.flatten_cons,e4,ul r true];rfl
    ·refine zh (m9 h q) ?_;intro h1 h2 h3
     simp only [if_neg q,List.singleton_append,List.map_cons,List.map_nil]
     rw [trn]
     simp only [h1,hb,if_true,Bool.false_eq_true,if_false,List.flatten_cons,h2,ul r true];rfl
  ·simp only [if_neg h,List.map_cons]
   rw [trn]
   simp only [if_neg h,List.flatten_cons,ul r];rfl
theorem ll {sp:Int->Str × Bool} (hsp:∀ k,casd k=true->sp k=(AL,false)):∀ (L:List (Bool × Int)) (b:Bool) (X:List Int) (fX:List Bool),fX.length=X.length ->
  fl ((X++L.map (·.2)).map sp)=fX++L.map (·.1)->fl ((X++(ex b L).map (·.2)).map sp)=fX++(ex b L).map (·.1)
 | [],b,X,fX,hl,h=>h
 | (f,c)::r,b,X,fX,hl,h=>by
  have one:∀ (u:Int) (b':Bool),sp u=sp c->fl ((X++(u::(ex b' r).map (·.2))).map sp)=fX++(f::(ex b' r).map (·.1)):=fun u b' e=>by
   have:=ll hsp r b' (X++[u]) (fX++[f]) (by simp [hl]) (by
    rw [List.append_assoc,List.append_assoc]
    show fl ((X++u::r.map (·.2)).map sp)=fX++f::r.map (·.1)
    rw [List.map_append,List.map_cons,e,← List.map_cons (f:=sp) (a:=c),← List.map_append];exact h)
   simpa using this
  unfold ex
  by_cases q:casd c=true
  ·simp only [q,if_true]
   cases hb:(b&&!f) with
   | true =>
    simp only [if_true,List.singleton_append,List.map_cons]
    exact one _ _ (by rw [hsp _ q,hsp _ (m0 q).1])
   | false =>
    simp only [Bool.false_eq_true,if_false]
    unfold exT
    by_cases q2:c=223
    ·simp only [q2,if_true,List.cons_append,List.nil_append,List.map_cons]
     subst q2
     have e1:sp 83=(AL,false):=hsp 83 (by decide)
     have e2:sp 115=(AL,false):=hsp 115 (by decide)
     have e3:sp 223=(AL,false):=hsp 223 (by decide)
     have hins:=j9 (X.map sp) ((r.map (·.2)).map sp)
     have h':fl (X.map sp++(AL,false)::(r.map (·.2)).map sp)=fX++f::r.map (·.1):=by
      have:=h;simpa [e3] using this
     have:=ll hsp r true (X++[83,115]) (fX++[f,false]) (by simp [hl]) (by
      have e4:(X++[(83:Int),115]++r.map (·.2)).map sp=X.map sp++(AL,false)::(AL,false)::(r.map (·.2)).map sp:=by simp [e1,e2]
      rw [e4,hins,h',List.length_map,← hl]
      rw [List.take_append,List.drop_append]
      simp [List.take_of_length_le (show fX.length<=fX.length+1 by exact o45 _),List.drop_of_length_le (show fX.length<=fX.length+1 by exact o45 _)])
     simpa using this
    ·simp only [if_neg q2,List.singleton_append,List.map_cons]
     exact one _ _ (by rw [hsp _ q,hsp _ (m9 q q2).1])
  ·simp only [if_neg q,List.map_cons]
   exact one _ _ rfl
theorem twice {sp:Int->Str × Bool} (hsp:∀ k,casd k=true->sp k=(AL,false)) (text:List Int) :
  let told:=(trn false ((fl (text.map sp)).zip text)).flatten
  (trn false ((fl (told.map sp)).zip told)).flatten=told:=by
 intro told
 have hl:(fl (text.map sp)).length=text.length:=by rw [zS,List.length_map]
 have m2:((fl (text.map sp)).zip text).map (·.2)=text:=List.map_snd_zip (o230 _ _ hl)
 have m1:((fl (text.map sp)).zip text).map (·.1)=fl (text.map sp):=List.map_fst_zip (o199 _ _ hl)
 have h:=ll hsp ((fl (text.map sp)).zip text) false [] [] rfl (by rw [m2,m1];rfl)
 have ht:told=(ex false ((fl (text.map sp)).zip text)).map (·.2):=(qK _ _).symm
 rw [List.nil_append,List.nil_append] at h
 rw [ht,h,show (((ex false ((fl (text.map sp)).zip text)).map (·.1)).zip ((ex false ((fl (text.map sp)).zip text)).map (·.2)))=ex false ((fl (text.map sp)).zip text) by rw [← List.unzip_fst,← List.unzip_snd];exact List.zip_unzip _]
 exact ul _ _

noncomputable def JOINE:List Str:=["ALetter","Hebrew_Letter","Numeric","Katakana","ExtendNumLet"]
noncomputable def pwhole (left right beyond far:Str) (odd:Bool):Bool :=
 if (LETTERS.contains left&&LETTERS.contains right) || (left=="Numeric"&&PLAIN.contains right) then true
 else if LETTERS.contains left&&INLET.contains right&&LETTERS.contains beyond then true
 else if LETTERS.contains far&&INLET.contains left&&LETTERS.contains right then true
 else if (left=="Hebrew_Letter"&&right=="Single_Quote") || (LETTERS.contains left&&right=="Numeric") then true
 else if left=="Hebrew_Letter"&&right=="Double_Quote"&&beyond=="Hebrew_Letter" then true
 else if far=="Hebrew_Letter"&&left=="Double_Quote"&&right=="Hebrew_Letter" then true
 else if far=="Numeric"&&INNUM.contains left&&right=="Numeric" then true
 else if left=="Numeric"&&INNUM.contains right&&beyond=="Numeric" then true
 else if (left=="Katakana"&&right=="Katakana") || (JOINE.contains left&&right=="ExtendNumLet") then true
 else if left=="ExtendNumLet"&&JOINED.contains right then true
 else right=="Regional_Indicator"&&(left=="Regional_Indicator"&&odd)
noncomputable def NMS:List Str:=["ALetter","Hebrew_Letter","Numeric","Katakana","ExtendNumLet","MidLetter","MidNumLet","Single_Quote","MidNum","Double_Quote","Regional_Indicator"]
noncomputable def cls (s:Str):Nat:=NMS.idxOf s
theorem lm {l:List Str} (h:l.Nodup) {s x:Str} {i:Nat} (e:l[i]?=some x):(s==x)=(l.idxOf s==i):=by
 have hi:=(List.getElem?_eq_some_iff.mp e)
 obtain ⟨hi,rfl⟩:=hi
 rw [Bool.eq_iff_iff,beq_iff_eq,beq_iff_eq]
 constructor
 ·rintro rfl
  exact h.idxOf_getElem i hi
 ·rintro rfl
  exact (List.getElem_idxOf hi).symm
theorem qL:NMS.Nodup:=of_decide_eq_true (by kernel_rfl)
theorem ja:∀ i:Fin 11,NMS[i.val]?=some (NMS.getD i.val ""):=by decide +kernel
theorem ind (s:Str):(fun i:Fin 11=>s==NMS.getD i.val "")=fun i=>cls s==i.val:=funext fun i=>lm qL (ja i)
theorem ma (s:Str):cls s<=11:=List.idxOf_le_length
theorem xF {α:Type} {c:Bool} {a a' b b':α} (h1:c=true->a=a') (h2:c=false->b=b'):(if c=true then a else b)=if c=true then a' else b':=by
 cases c with
 | true=>simpa using h1 rfl
 | false=>simpa using h2 rfl
noncomputable def mc (here after beyond far:Str) (odd:Bool):Bool :=
 if after=="ExtendNumLet" then here=="ExtendNumLet" || JOINED.contains here
 else if here=="ExtendNumLet" then JOINED.contains after
 else if here=="Katakana" || after=="Katakana" then here=="Katakana"&&after=="Katakana"
 else if here=="Regional_Indicator" then after=="Regional_Indicator"&&odd
 else if PLAIN.contains here&&PLAIN.contains after then true
 else if here=="Hebrew_Letter"&&after=="Single_Quote" then true
 else if PLAIN.contains here then bridges here after beyond
 else if PLAIN.contains after then bridges far here after
 else false
theorem ln (here after beyond far:Str) (odd:Bool):pjoin here after beyond far odd=mc here after beyond far odd:=by
 unfold pjoin mc
 refine xF (fun h=>?_) fun _=>xF (fun _=>rfl) fun _=>xF (fun h=>?_) fun _=>xF (fun h=>?_) fun _=>rfl
 ·rw [eq_of_beq h]
 ·rw [Bool.or_eq_true] at h
  rcases h with h | h
  ·rw [eq_of_beq h,Bool.beq_comm];simp
  ·rw [eq_of_beq h];simp
 ·rw [eq_of_beq h]
noncomputable abbrev LE (e:Fin 11->Bool):Bool:=e 0 || (e 1 || false)
noncomputable abbrev PL (e:Fin 11->Bool):Bool:=e 0 || (e 1 || (e 2 || false))
noncomputable abbrev JO (e:Fin 11->Bool):Bool:=e 0 || (e 1 || (e 2 || (e 3 || false)))
noncomputable abbrev JE (e:Fin 11->Bool):Bool:=e 0 || (e 1 || (e 2 || (e 3 || (e 4 || false))))
noncomputable abbrev IL (e:Fin 11->Bool):Bool:=e 5 || (e 6 || (e 7 || false))
noncomputable abbrev IN (e:Fin 11->Bool):Bool:=e 8 || (e 6 || (e 7 || false))
noncomputable def pjS (e f:Fin 11->Bool) (bl bn bh fl fn fh odd:Bool):Bool :=
 if f 4 then e 4 || JO e
 else if e 4 then JO f
 else if e 3 || f 3 then e 3&&f 3
 else if e 10 then f 10&&odd
 else if PL e&&PL f then true
 else if e 1&&f 7 then true
 else if PL e then (if LE e&&bl&&IL f then true else if e 2&&bn then IN f else e 1&&bh&&f 9)
 else if PL f then (if fl&&LE f&&IL e then true else if fn&&f 2 then IN e else fh&&f 1&&e 9)
 else false
noncomputable def pwS (e f:Fin 11->Bool) (bl bn bh fl fn fh odd:Bool):Bool :=
 if (LE e&&LE f) || (e 2&&PL f) then true
 else if LE e&&IL f&&bl then true
 else if fl&&IL e&&LE f then true
 else if (e 1&&f 7) || (LE e&&f 2) then true
 else if e 1&&f 9&&bh then true
 else if fh&&e 9&&f 1 then true
 else if fn&&IN e&&f 2 then true
 else if e 2&&IN f&&bn then true
 else if (e 3&&f 3) || (JE e&&f 4) then true
 else if e 4&&JO f then true
 else f 10&&(e 10&&odd)
noncomputable def oz (f:Bool->Bool):Bool:=f true&&f false
theorem xd {f:Bool->Bool} (h:oz f=true) (b:Bool):f b=true:=by
 unfold oz at h
 rw [Bool.and_eq_true] at h
 cases b with
 | true=>exact h.1
 | false=>exact h.2
noncomputable def chk (h a:Nat):Bool:=oz fun bl=>oz fun bn=>oz fun bh=>oz fun fl=>oz fun fn=>oz fun fh=>oz fun odd=>pjS (h==·.val) (a==·.val) bl bn bh fl fn fh odd==pwS (h==·.val) (a==·.val) bl bn bh fl fn fh odd
theorem lp:((List.range 12).all fun h=>(List.range 12).all fun a=>chk h a)=true:=by decide +kernel
theorem iM {h a:Nat} (hh:h<=11) (ha:a<=11) (bl bn bh fl fn fh odd:Bool):pjS (h==·.val) (a==·.val) bl bn bh fl fn fh odd=pwS (h==·.val) (a==·.val) bl bn bh fl fn fh odd:=by
 have h1:=List.all_eq_true.mp lp h (List.mem_range.mpr (o231 _ hh))
 have h2:=List.all_eq_true.mp h1 a (List.mem_range.mpr (o231 _ ha))
 exact eq_of_beq (xd (xd (xd (xd (xd (xd (xd h2 bl) bn) bh) fl) fn) fh) odd)
theorem um (here after beyond far:Str) (odd:Bool):pjoin here after beyond far odd=pwhole here after beyond far odd:=by
 have h:=iM (ma here) (ma after) (LETTERS.contains beyond) (beyond=="Numeric") (beyond=="Hebrew_Letter") (LETTERS.contains far) (far=="Numeric") (far=="Hebrew_Letter") odd
 rw [← ind here,← ind after] at h
 exact (ln here after beyond far odd).trans h

noncomputable def duef:Nat->List Bool->List Nat
 | p,[]=>[p]
 | p,f::r=>if f=true then p::duef (p+1) r else duef (p+1) r
noncomputable def cut (text:List Int) (p:Nat × Nat):List Int:=(text.drop p.1).take (p.2-p.1)
theorem vL:∀ (X Z:List Int) (b:Bool),yk b (X++Z)=yk b X++yk (b || X.any casd) Z
 | [],Z,b=>by simp [yk]
 | c::X,Z,b=>by
  rw [List.cons_append]
  by_cases h:casd c=true
  ·simp only [yk,h,if_true,vL X Z true,List.any_cons,Bool.true_or,Bool.or_true,List.cons_append]
  ·have h':casd c=false:=by simpa using h
   simp only [yk,h',Bool.false_eq_true,if_false,vL X Z b,List.any_cons,Bool.false_or,List.cons_append]
theorem vM (text:List Int):∀ (Y:List Int) (fY:List Bool) (a p:Nat),a<=p->fY.length=Y.length->text.drop p=Y->p<=text.length ->
  ((a::duef p fY).zip (duef p fY)).flatMap (fun e=>yk false (cut text e))=yk false (cut text (a,p))++trn ((cut text (a,p)).any casd) (fY.zip Y)
 | [],[],a,p,ha,hl,hd,hp=>by simp [duef,trn]
 | [],f::fY,a,p,ha,hl,hd,hp=>by simp at hl
 | c::Y,[],a,p,ha,hl,hd,hp=>by simp at hl
 | c::Y,f::fY,a,p,ha,hl,hd,hp=>by
  have hlt:p<text.length:=by
   have:=congrArg List.length hd
   simp at this;exact o98 _ _ _ this
  have hd1:text.drop (p+1)=Y:=by
   rw [List.drop_eq_getElem_cons hlt] at hd
   exact (List.cons.inj hd).2
  have hc:text[p]=c:=by
   rw [List.drop_eq_getElem_cons hlt] at hd
   exact (List.cons.inj hd).1
  have hl':fY.length=Y.length:=by simpa using hl
  have hcut:cut text (a,p+1)=cut text (a,p)++[c]:=by
   unfold cut
   simp only
   rw [show p+1-a=(p-a)+1 by exact o232 _ _ ha,List.take_succ_eq_append_getElem (by simp;exact o233 _ _ _ hlt ha)]
   simp only [List.getElem_drop,show a+(p-a)=p by exact o234 _ _ ha,hc]
  rw [List.zip_cons_cons]
  unfold duef trn
  cases f with
  | true =>
   simp only [if_true,Bool.not_true,Bool.and_false,Bool.false_eq_true,if_false]
   rw [List.zip_cons_cons,List.flatMap_cons,vM text Y fY p (p+1) (o45 _) hl' hd1 (o235 _ _ hlt)]
   congr 1
   have e1:cut text (p,p+1)=[c]:=by
    unfold cut
    simp only
    rw [show p+1-p=1 by exact o236 _,hd];rfl
   rw [e1]
   by_cases h:casd c=true
   ·simp [yk,h]
   ·simp [yk,h]
  | false =>
   simp only [Bool.false_eq_true,if_false,Bool.not_false,Bool.and_true]
   rw [vM text Y fY a (p+1) (o237 _ _ ha) hl' hd1 (o235 _ _ hlt),hcut,vL,List.append_assoc,Bool.false_or]
   congr 1
   by_cases h:casd c=true
   ·simp [yk,h]
   ·simp [yk,h]
noncomputable def pcs (text:List Int) (due:List Nat):List (List Int):=(due.zip due.tail).flatMap fun e=>yk false (cut text e)
theorem lq {text:List Int} {F:List Bool} (hl:F.length=text.length) (h0:∀ f r,F=f::r->f=true) (hne:text≠[]):pcs text (duef 0 F)=trn false (F.zip text):=by
 cases F with
 | nil=>cases text with
  | nil=>exact absurd rfl hne
  | cons c t=>simp at hl
 | cons f r =>
  obtain rfl:=h0 f r rfl
  cases text with
  | nil=>exact absurd rfl hne
  | cons c t =>
   unfold pcs
   have:duef 0 (true::r)=0::duef 1 r:=rfl
   rw [this,List.tail_cons,vM (c::t) t r 0 1 (by exact o54) (by simpa using hl) rfl (by simp)]
   have e1:cut (c::t) (0,1)=[c]:=rfl
   rw [e1,List.zip_cons_cons]
   by_cases h:casd c=true
   ·simp [yk,trn,h]
   ·simp [yk,trn,h]
theorem wu {P:Nat->Bool}:∀ (F:List Bool) (p:Nat),(∀ i,i<F.length->F[i]?=some (P (p+i)))->P (p+F.length)=true->duef p F=(List.range' p (F.length+1)).filter P
 | [],p,h,hP=>by
  have:P p=true:=hP
  simp [duef,List.range',this]
 | f::r,p,h,hP=>by
  have h0:=h 0 (by simp)
  simp only [List.getElem?_cons_zero,Nat.add_zero,Option.some.injEq] at h0
  have ih:=wu (P:=P) r (p+1) (fun i hi=>by have:=h (i+1) (by simp;exact o238 _ _ hi);rw [List.getElem?_cons_succ] at this;rw [this,show p+(i+1)=p+1+i by exact o220 _ _]) (by rw [← hP];congr 1;simp;exact o239 _ _)
  unfold duef
  rw [List.length_cons,List.range'_succ,List.filter_cons,ih,← h0]
theorem oA {sp:Int->Str × Bool} {text:List Int} (hne:text≠[]) {row:List Str} {pic:Nat->Bool} (hr:row=text.map fun k=>(sp k).1) (hp:∀ i k,text[i]?=some k->pic i=(sp k).2) :
  ((List.range (row.length+1)).filter fun i=>rule row pic (i:Nat))=duef 0 (fl (text.map sp))/\(∀ f r,fl (text.map sp)=f::r->f=true):=by
 have hrow:row.length=text.length:=by rw [hr,List.length_map]
 have hpos:0<text.length:=by cases text with | nil=>exact absurd rfl hne | cons a t=>simp
 have hm:(text.map sp).map (·.1)=row:=by rw [hr,List.map_map];rfl
 have hpic:∀ i,i<text.length->((text.map sp)[i]?.map (·.2)).getD false=pic i:=fun i hi=>by
  have e:=List.getElem?_eq_getElem hi
  rw [List.getElem?_map,e,hp i _ e];rfl
 have hrule:∀ i,i<text.length->rule row (fun i=>((text.map sp)[i]?.map (·.2)).getD false) (i:Nat)=rule row pic (i:Nat):=fun i hi=>by
  cases i with
  | zero=>rw [show ((0:Nat):Int)=0 from rfl,y5,y5]
  | succ i=>rw [yU (o103 _) (o192 _ _ _ hi hrow),yU (o103 _) (o192 _ _ _ hi hrow),hpic _ hi]
 have hat:∀ i,i<(fl (text.map sp)).length->(fl (text.map sp))[i]?=some (rule row pic (0+i:Nat)):=fun i hi=>by
  rw [zS,List.length_map] at hi
  rw [ou (by rw [List.length_map];exact hi),hm,hrule i hi,Nat.zero_add]
 constructor
 ·rw [wu (P:=fun i=>rule row pic (i:Nat)) _ 0 hat (by rw [zS,List.length_map,Nat.zero_add,xw (o199 _ _ hrow)];simp;exact o240 _ _ hpos hrow),zS,List.length_map,hrow,List.range_eq_range']
 ·intro f r e
  have:=hat 0 (by rw [zS,List.length_map];exact hpos)
  rw [e,List.getElem?_cons_zero,Nat.add_zero,show ((0:Nat):Int)=0 from rfl,y5] at this
  simp only [Option.some.injEq] at this
  rw [this];simp;exact o240 _ _ hpos hrow

theorem un (row:List Str):∀ i,(List.range i).filter (fun j=>!alg row j)=(stk row i).reverse
 | 0=>rfl
 | i+1=>by
  rw [List.range_succ,List.filter_append,un row i]
  show _=(if alg row i=true then stk row i else i::stk row i).reverse
  cases h:alg row i <;> simp [h]
noncomputable def bsl (row:List Str):List Nat:=(List.range row.length).filter fun j=>!alg row j
noncomputable def rst (row:List Str) (i:Nat):List Nat:=(List.range' (i+1) (row.length-(i+1))).filter fun j=>!alg row j
theorem wv {row:List Str} {i:Nat} (hi:i<row.length) (ha:alg row i=false):bsl row=(stk row i).reverse++i::rst row i:=by
 unfold bsl rst
 rw [← un]
 have:List.range row.length=List.range i++i::List.range' (i+1) (row.length-(i+1)):=by
  rw [List.range_eq_range',List.range_eq_range',← List.range'_succ]
  have:=List.range'_append_1 (s:=0) (m:=i) (n:=row.length-(i+1)+1)
  rw [Nat.zero_add] at this
  rw [this];congr 1;exact o241 _ _ hi
 rw [this,List.filter_append,List.filter_cons_of_pos (by rw [ha];rfl)]
noncomputable def gf (row:List Str) (l:List Nat):Str:=match l with | []=>"" | j::_=>ze row (j:Nat)
noncomputable def nxt (row:List Str) (i:Nat):Str:=gf row (rst row i)
theorem md {row:List Str}:∀ (m p:Nat),p+m=row.length->0<p->endd row ((p:Int)-1)=false->gf row ((List.range' p m).filter fun j=>!alg row j)=bey (row.drop p)
 | 0,p,h,h0,he=>by
  rw [List.drop_of_length_le (o242 _ _ h)];rfl
 | m+1,p,h,h0,he=>by
  have hp:p<row.length:=by exact o243 _ _ _ h
  have ha:alg row p=skp row p:=by unfold alg;rw [he];simp [h0]
  rw [List.range'_succ,List.drop_eq_getElem_cons hp]
  unfold bey
  cases q:skp row p with
  | true =>
   have q':=q
   unfold skp at q'
   rw [zr hp] at q'
   rw [List.filter_cons_of_neg (by rw [ha,q];decide),if_pos q']
   refine md m (p+1) (o244 _ _ _ h) (o103 _) ?_
   rw [show (((p+1:Nat):Int)-1)=(p:Int) by exact o36 _]
   exact yE q
  | false =>
   have q':=q
   unfold skp at q'
   rw [zr hp] at q'
   rw [List.filter_cons_of_pos (by rw [ha,q];rfl),if_neg (by rw [q'];decide)]
   exact zr hp
theorem ls {row:List Str} {i:Nat} (hi:i<row.length) (he:endd row i=false):nxt row i=bey (row.drop (i+1)) :=
 md _ (i+1) (o245 _ _ hi) (o103 _) (by rw [show (((i+1:Nat):Int)-1)=(i:Int) by exact o36 _];exact he)
noncomputable def lwhole (row:List Str) (i:Nat):Bool:=pwhole ((ss row i).headD "") (ze row i) (nxt row i) ((ss row i).tail.headD "") (odd (ss row i))
noncomputable def lrule (row:List Str) (pic:Nat->Bool) (i:Nat):Bool :=
 if i=0∨i=row.length then true
 else if ze row ((i:Int)-1)=="CR"&&ze row i=="LF" then false
 else if ENDS.contains (ze row ((i:Int)-1)) || ENDS.contains (ze row i) then true
 else if (ze row ((i:Int)-1)=="ZWJ"&&pic i) || (ze row ((i:Int)-1)=="WSegSpace"&&ze row i=="WSegSpace") then false
 else !alg row i&&!lwhole row i
theorem rg {row:List Str} {pic:Nat->Bool} {i:Nat} (hn:0<row.length) (hi:i<=row.length):lrule row pic i=rule row pic (i:Nat):=by
 unfold lrule
 by_cases h0:i=0
 ·subst h0
  rw [if_pos (.inl rfl),show ((0:Nat):Int)=0 from rfl,y5];simp [hn]
 by_cases h1:i=row.length
 ·rw [if_pos (.inr h1),xw (o230 _ _ h1)];simp [hn]
 rw [if_neg (o246 _ _ h0 h1),yU (o247 _ h0) (o248 _ _ hi h1)]
 unfold dec
 refine xF (fun _=>rfl) fun _=>xF (fun _=>rfl) fun he=>?_
 rw [Bool.or_eq_false_iff] at he
 have ha:alg row i=SKP.contains (ze row i):=by
  unfold alg
  have:endd row ((i:Int)-1)=false:=he.1
  rw [this]
  have:decide (0<i)=true:=by simp;exact o247 _ h0
  rw [this];simp [skp]
 have hb:nxt row i=bey (row.drop (i+1)):=ls (o248 _ _ hi h1) he.2
 rw [ha]
 unfold lwhole
 rw [hb,um]
 cases (ze row ((i:Int)-1)=="ZWJ"&&pic i) <;> cases (ze row ((i:Int)-1)=="WSegSpace"&&ze row i=="WSegSpace") <;> cases SKP.contains (ze row i) <;> rfl
noncomputable def pbegin' (row:List Str) (pic:Nat->Bool):Nat->Nat
 | 0=>0
 | i+1=>if rule row pic (i+1:Nat) then i+1 else pbegin' row pic i
theorem xG {row:List Str} {pic:Nat->Bool} (hn:0<row.length):∀ (i:Nat),((List.range (i+1)).filter fun j=>rule row pic (j:Nat)).getLast?=some (pbegin' row pic i)
 | 0=>by
  have:rule row pic 0=true:=by rw [y5];simp [hn]
  simp [pbegin',this]
 | i+1=>by
  rw [List.range_succ,List.filter_append]
  unfold pbegin'
  by_cases h:rule row pic ((i+1:Nat):Int)=true
  ·rw [if_pos h,List.filter_cons_of_pos (p:=fun j:Nat=>rule row pic (j:Nat)) (a:=i+1) h];simp
  ·rw [if_neg h,List.filter_cons_of_neg (p:=fun j:Nat=>rule row pic (j:Nat)) (a:=i+1) h]
   rw [List.filter_nil,List.append_nil]
   exact xG hn i
noncomputable def pendl' (row:List Str) (pic:Nat->Bool):Nat->Nat->Nat
 | 0,j=>j
 | f+1,j=>if j<row.length/\rule row pic (j:Nat)=false then pendl' row pic f (j+1) else j
theorem so {row:List Str} {pic:Nat->Bool} (hn:0<row.length):∀ (f j:Nat),j<=row.length->row.length<j+f->((List.range' j (row.length+1-j)).filter fun j=>rule row pic (j:Nat)).head?=some (pendl' row pic f j)
 | 0,j,h,hf=>by exact (o249 _ _ hf h).elim
 | f+1,j,h,hf=>by
  rw [show row.length+1-j=(row.length-j)+1 by exact o232 _ _ h,List.range'_succ]
  unfold pendl'
  by_cases hr:rule row pic ((j:Nat):Int)=true
  ·rw [List.filter_cons_of_pos (p:=fun j:Nat=>rule row pic (j:Nat)) (a:=j) hr,if_neg (fun z=>by rw [hr] at z;exact absurd z.2 (by decide))];rfl
  ·have hr':rule row pic ((j:Nat):Int)=false:=by simpa using hr
   have hj:j<row.length:=by
    by_cases q:j<row.length
    ·exact q
    ·exfalso;apply hr;rw [xw (o89 _ _ q)];simp [hn]
   rw [List.filter_cons_of_neg (p:=fun j:Nat=>rule row pic (j:Nat)) (a:=j) hr,if_pos ⟨hj,hr'⟩]
   have:=so (pic:=pic) hn f (j+1) (o235 _ _ hj) (o250 _ _ _ hf)
   rw [show row.length+1-(j+1)=row.length-j by exact o251 _ _] at this
   exact this

structure CW where
 prog:Program
 w:World
 base:Heap
 p:Program
 loose:List Str
 mg:Str->Option Value
 mb:Str->Option Value
 os:OsState
 X:(KK w.params).In base
 T:TopRead p loose mg mb base
noncomputable def CW.c (y:CW):Cx:=⟨y.prog,y.w,KK y.w.params,y.base,y.p,y.loose,y.mg,y.mb,y.os,y.X,y.T⟩
section
variable {y:CW} {n:Nat} {env:Env} {own:List Addr} {ρ:Loc} {σ:Sto} {Q:CV->Sto->Prop} {pos:Pos}
theorem f0 (hk:env.kindOf ("WORD_SKIPPED":Str)=some .globalImplicit) (h:Q (.tup (SKP.map .str)) σ):WE y.c n env own (.Name "WORD_SKIPPED" pos) Q ρ σ:=yx SKP 618 hk (a:=303) (by kernel_rfl) (by kernel_rfl) h (by decide)
theorem iN (hk:env.kindOf ("WORD_ENDS":Str)=some .globalImplicit) (h:Q (.tup (ENDS.map .str)) σ):WE y.c n env own (.Name "WORD_ENDS" pos) Q ρ σ:=yx ENDS 614 hk (a:=302) (by kernel_rfl) (by kernel_rfl) h (by decide)
theorem oB (hk:env.kindOf ("WORD_LETTERS":Str)=some .globalImplicit) (h:Q (.tup (LETTERS.map .str)) σ):WE y.c n env own (.Name "WORD_LETTERS" pos) Q ρ σ:=yx LETTERS 622 hk (a:=304) (by kernel_rfl) (by kernel_rfl) h (by decide)
theorem jb (hk:env.kindOf ("WORD_PLAIN":Str)=some .globalImplicit) (h:Q (.tup (PLAIN.map .str)) σ):WE y.c n env own (.Name "WORD_PLAIN" pos) Q ρ σ:=yx PLAIN 625 hk (a:=305) (by kernel_rfl) (by kernel_rfl) h (by decide)
theorem lu (hk:env.kindOf ("WORD_JOINED":Str)=some .globalImplicit) (h:Q (.tup (JOINED.map .str)) σ):WE y.c n env own (.Name "WORD_JOINED" pos) Q ρ σ:=yx JOINED 629 hk (a:=306) (by kernel_rfl) (by kernel_rfl) h (by decide)
theorem jc (hk:env.kindOf ("WORD_IN_LETTERS":Str)=some .globalImplicit) (h:Q (.tup (INLET.map .str)) σ):WE y.c n env own (.Name "WORD_IN_LETTERS" pos) Q ρ σ:=yx INLET 634 hk (a:=307) (by kernel_rfl) (by kernel_rfl) h (by decide)
theorem jd (hk:env.kindOf ("WORD_IN_NUMBERS":Str)=some .globalImplicit) (h:Q (.tup (INNUM.map .str)) σ):WE y.c n env own (.Name "WORD_IN_NUMBERS" pos) Q ρ σ:=yx INNUM 638 hk (a:=308) (by kernel_rfl) (by kernel_rfl) h (by decide)
end

set_option compiler.extract_closed false
local macro_rules | `(tactic| fail "n") => `(tactic| ((try first
  | with_reducible refine goE ?_
  | with_reducible refine goB ?_
  | with_reducible refine goS ?_
  | with_reducible refine goT ?_
  | with_reducible refine goA ?_
  | ((with_reducible refine' goL ?a ?_);case a=>exact rfl));(try first
  | refine Stop.mk ?_
  | with_reducible show W ..
  | with_reducible show OW ..
  | (refine (?_:W ..);fail "n")
  | refine (?_:OW ..)
  | refine (?_:WIt ..)
  | with_reducible show WA ..
  | (refine (?_:WA ..);fail "n")
  | refine (?_:WN ..)
  | refine (?_:setF ..))))
local macro_rules | `(tactic| fail "sr") => `(tactic| first
 | with_reducible first | refine vm ?_ | refine qg ?_ | refine ko ?_ | refine kq ?_ | refine kF ?_ | refine mS ?_ | refine tV ?_ | refine kr ?_ | refine gI ?_
 | ((with_reducible refine' iF ?a ?b ?c ?_);case a | b | c=>exact rfl)
 | ((with_reducible first | refine' l9 ?a ?_ | refine' mR ?a ?_ | refine' f0 ?a ?_ | refine' iN ?a ?_ | refine' oB ?a ?_ | refine' jb ?a ?_ | refine' lu ?a ?_ | refine' jc ?a ?_ | refine' jd ?a ?_);case a=>exact rfl)
 | ((with_reducible first | refine' j5 ?a ?b ?_ | refine' kC ?a ?b ?_);case a | b=>exact rfl)
 | ((with_reducible show WNs ..);first | refine mU ?_ | refine kM ?_)
 | ((with_reducible refine' kc ?a ?b ?c ?_);(case a | b=>exact rfl);case c=>(refine List.mem_cons_of_mem _ ?_;repeat first | exact List.mem_cons_self | refine List.mem_cons_of_mem _ ?_))
 | ((with_reducible refine' pE ?a ?b ?_ ?c);(case a=>kernel_rfl);(case b=>exact rfl);case c=>decide)
 | ((with_reducible refine' mT ?a ?b ?c ?d ?e ?f ?g ?_);(case a | b | c | d=>kernel_rfl);case e | f | g=>exact rfl)
 | ((with_reducible first | refine' sW ?a ?b ?c ?d ?e ?f ?g ?h ?_ | refine' pW ?a ?b ?c ?d ?e ?f ?g ?h ?_);(case a | b | c | d=>kernel_rfl);case e | f | g | h=>exact rfl)
 | ((with_reducible refine' rZ ?a ?b ?c ?d ?e ?f ?g ?h ?_);(case a | b=>kernel_rfl);(case c | g | h=>exact rfl);(case d | e=>decide);case f=>exact yG)
 | ((with_reducible first | refine' kI (keys:=some (.Constant (.int _) ..)::_) ?a ?b ?c ?d ?_ | refine' kH ?a ?b ?c ?d ?_);(case a | b=>exact rfl);(case c=>simp);case d=>decide)
 | ((first | refine' CallTo.fn ?a ?b ?_ | refine' CallTo0.fn ?a ?b ?_);case a | b=>exact rfl)
 | (refine' CallTo.bi ?a ?b ?_;(case a=>kernel_rfl);case b=>exact rfl)
 | (refine' CallTo.ty ?a ?b ?_;(case a=>kernel_rfl);case b=>exact rfl)
 | (refine' Br.pos ?a ?_;case a=>exact rfl)
 | (refine' Br.neg ?a ?_;case a=>exact rfl)
 | refine Turns.to (by assumption) ?_
 | refine TurnsW.to (by assumption) ?_)
local macro_rules | `(tactic| fail "fin") => `(tactic| try first | refine (?_ : Br ..) | refine (?_ : AttrTo ..) | refine (?_ : MethTo ..) | refine (?_ : AttaTo ..) | refine (?_ : ListTo ..) | refine (?_ : _ /\ _) | refine (?_ : ∃ _, _) | refine (?_ : _ = _))
local macro_rules | `(tactic| fail "gx") => `(tactic| (fail "n"; (repeat (fail "sr"; fail "n")); fail "fin"))
local macro_rules | `(tactic| fail "g") => `(tactic| (fail "n"; (repeat ((first | fail "sr" | with_reducible refine iz ?_); fail "n")); fail "fin"))
local macro_rules | `(tactic| fail "o") => `(tactic| (fail "g"; exact ⟨rfl, rfl⟩))
local macro_rules | `(tactic| fail "if") => `(tactic| (fail "n"; with_reducible refine gZ ?_))
local macro_rules | `(tactic| fail "l") => `(tactic| first | assumption | exact zb .. | (refine zk ?_ (by assumption); fail "l") | (refine zn (by first | assumption | exact Ne.symm (by assumption)) ?_; fail "l"))
local macro_rules | `(tactic| fail "sm") => `(tactic| first | assumption | exact Same.refl | (refine Same.newU ?_ (by assumption); fail "sm") | (refine Same.lateU ?_ (by assumption); fail "sm") | (refine Same.inU ?_ (by repeat first | exact List.mem_cons_self | refine List.mem_cons_of_mem _ ?_); fail "sm"))
local macro_rules | `(tactic| fail "t") => `(tactic| first | exact of_decide_eq_true rfl | decide | simp)
theorem zq {c:Cx} {fd:FuncData} {args:List CV} {ρ0:Loc} (h:∀ (h:Heap) vals,VRs h args vals->∃ binds,bindArgs fd ⟨vals,[]⟩=pure binds/\Binds h ρ0 binds) :
  ∀ (s:Shared) vals,c.K.In s.heap->VRs s.heap args vals->∃ binds,BindsTo s fd ⟨vals,[]⟩ binds/\Binds s.heap ρ0 binds:=fun s vals _ V=>za (h s.heap vals V) fun b e B=>(z0 b (.of_eq e) B)
theorem gg {h:Heap} {a:CV} {vals:List Value} (V:VRs h [a] vals):∃ v,vals=[v]/\VR h a v:=by
 refine zg (V.inv) ?_;rintro v r rfl h1 V;obtain rfl:=VRs.nil_iff.mp V;exact (z0 v rfl h1)
theorem gh {h:Heap} {a b:CV} {vals:List Value} (V:VRs h [a,b] vals):∃ v w,vals=[v,w]/\VR h a v/\VR h b w:=by
 refine zg (V.inv) ?_;rintro v r rfl h1 V;refine za (gg V) ?_;intro w q312 h2;obtain rfl:=q312;exact (zj v w rfl h1 h2)
theorem iO {h:Heap} {a b d:CV} {vals:List Value} (V:VRs h [a,b,d] vals):∃ v w x,vals=[v,w,x]/\VR h a v/\VR h b w/\VR h d x:=by
 refine zg (V.inv) ?_;rintro v r rfl h1 V;refine zg (gh V) ?_;intro w x q314 h2 h3;obtain rfl:=q314;exact (nD v w x rfl h1 h2 h3)
theorem bd1 {fd:FuncData} {n1:Str} {a:CV} (e:∀ v,bindArgs fd ⟨[v],[]⟩=pure [(n1,v)]):∀ (h:Heap) vals,VRs h [a] vals->∃ binds,bindArgs fd ⟨vals,[]⟩=pure binds/\Binds h [(n1,a)] binds:=fun h vals V=>by
 refine za (gg V) ?_;intro v q315 h1;obtain rfl:=q315;exact (z0 _ (e v) (by exact (zj _ _ rfl h1 rfl)))
theorem bd2 {fd:FuncData} {n1 n2:Str} {a b:CV} (e:∀ v w,bindArgs fd ⟨[v,w],[]⟩=pure [(n1,v),(n2,w)]):∀ (h:Heap) vals,VRs h [a,b] vals->∃ binds,bindArgs fd ⟨vals,[]⟩=pure binds/\Binds h [(n1,a),(n2,b)] binds:=fun h vals V=>by
 refine zg (gh V) ?_;intro v w q316 h1 h2;obtain rfl:=q316;exact (z0 _ (e v w) (by exact (zj _ _ rfl h1 (zj _ _ rfl h2 rfl))))
theorem bd3 {fd:FuncData} {n1 n2 n3:Str} {a b d:CV} (e:∀ v w x,bindArgs fd ⟨[v,w,x],[]⟩=pure [(n1,v),(n2,w),(n3,x)]):∀ (h:Heap) vals,VRs h [a,b,d] vals->∃ binds,bindArgs fd ⟨vals,[]⟩=pure binds/\Binds h [(n1,a),(n2,b),(n3,d)] binds:=fun h vals V=>by
 refine rP (iO V) ?_;intro v w x q317 h1 h2 h3;obtain rfl:=q317;exact (z0 _ (e v w x) (by exact (zj _ _ rfl h1 (zj _ _ rfl h2 (zj _ _ rfl h3 rfl)))))
theorem iP {h:Heap} {a b d e:CV} {vals:List Value} (V:VRs h [a,b,d,e] vals):∃ v w x z,vals=[v,w,x,z]/\VR h a v/\VR h b w/\VR h d x/\VR h e z:=by
 refine zg (V.inv) ?_;rintro v r rfl h1 V;refine rP (iO V) ?_;intro w x z q319 h2 h3 h4;obtain rfl:=q319;exact (nI v w x z rfl h1 h2 h3 h4)
theorem bd4 {fd:FuncData} {n1 n2 n3 n4:Str} {a b d g:CV} (e:∀ v w x z,bindArgs fd ⟨[v,w,x,z],[]⟩=pure [(n1,v),(n2,w),(n3,x),(n4,z)]):∀ (h:Heap) vals,VRs h [a,b,d,g] vals->∃ binds,bindArgs fd ⟨vals,[]⟩=pure binds/\Binds h [(n1,a),(n2,b),(n3,d),(n4,g)] binds:=fun h vals V=>by
 refine tN (iP V) ?_;intro v w x z q320 h1 h2 h3 h4;obtain rfl:=q320;exact (z0 _ (e v w x z) (by exact (zj _ _ rfl h1 (zj _ _ rfl h2 (zj _ _ rfl h3 (zj _ _ rfl h4 rfl))))))
section
variable {y:CW} {n:Nat} {σ:Sto} {Q:CV->Sto->Prop}
theorem pbh {a:Addr} {xs:List Int} {k:Int} (ha:σ a=some (.list (xs.map .int))) (hs:xs.Pairwise (·<=·)) (hl:xs.length<=1000) (h:Q (.int ((cnt xs k:Int)-1)) σ):OCd y.c (n+1) [.ref a,.int k] (.ref 196) Q σ:=by
 refine wfD (fa:=196) rfl (by kernel_rfl) _ (zq (bd2 fun v w=>rfl)) (by kernel_rfl) fun L=>?_
 fail "g"
 fail "n";refine xR ha ?_
 fail "g"
 fail "n";refine (xc (fun m ρ σ'=>∃ lo hi:Nat,lo<=cnt xs k/\cnt xs k<=hi/\hi<=xs.length/\m=hi-lo/\ρ=([("firsts",.ref a),("number",.int k),("low",.int lo),("high",.int hi)]:Loc)/\σ'=σ) xs.length
  (z0 _ (?_) (wf 0 xs.length (Nat.zero_le _) (xU _ _) (Nat.le_refl _) rfl rfl rfl)) ?_)
 ·exact ⟨rfl,rfl,rfl,by simp;exact rfl,trivial⟩
 intro T hT;intro m ρ σ' z1;refine rN (z1) ?_;intro lo hi h1 h2 h3 q321 q322 q323;obtain rfl:=q321;obtain rfl:=q322;obtain rfl:=q323
 fail "g"
 by_cases hlt:lo<hi
 ·first | refine Br.yes hlt ?_ | refine Br.eqT hlt ?_ | refine Br.zT hlt ?_ | refine Br.pos (by simpa using hlt) ?_
  fail "g"
  fail "n";refine jZ (by decide) (PyProof.noPylong_small (by exact o272)) ?_
  rw [show ((lo:Int)+hi).fdiv 2=(((lo+hi) / 2:Nat):Int) by rw [Int.fdiv_eq_ediv_of_nonneg _ (by decide)];exact o273 _ _]
  fail "g"
  fail "if"
  fail "g"
  generalize hm:(lo+hi) / 2=mid
  have hml:mid<xs.length:=by exact o274 _ _ _ _ hm hlt h3
  fail "n";refine zD (fun _ _=>rfl) ha (o162 _) (cv:=.int xs[mid]) (by simp) ?_
  fail "g"
  have key:=j6 (k:=k) hs (List.getElem?_eq_getElem hml)
  by_cases hk:xs[mid]<=k
  ·first | refine Br.yes hk ?_ | refine Br.eqT hk ?_ | refine Br.zT hk ?_ | refine Br.pos (by simpa using hk) ?_
   fail "g"
   have:=key.mp hk
   refine (zj (hi-(mid+1)) _ (o275 _ _ _ hm hlt) (?_) (wf (mid+1) hi (o235 _ _ this) h2 h3 rfl rfl rfl))
   exact ⟨rfl,rfl,rfl,rfl,trivial⟩
  ·first | refine Br.no hk ?_ | refine Br.eqF hk ?_ | refine Br.zF hk ?_ | refine Br.nay (by simpa using hk) ?_
   fail "g"
   have:¬ mid<cnt xs k:=fun z=>hk (key.mpr z)
   refine (zj (mid-lo) _ (o276 _ _ _ hm hlt) (?_) (wf lo mid h1 (o89 _ _ this) (o257 _ _ hml) rfl rfl rfl))
   exact ⟨rfl,rfl,rfl,rfl,trivial⟩
 ·first | refine Br.no hlt ?_ | refine Br.eqF hlt ?_ | refine Br.zF hlt ?_ | refine Br.nay (by simpa using hlt) ?_
  fail "g"
  have:lo=cnt xs k:=by exact o277 _ _ _ h1 h2 hlt
  subst this
  exact h
end

section
variable {y:CW} {n:Nat} {σ:Sto} {Q:CV->Sto->Prop}
noncomputable def simple:CV->Bool | .none=>true | .bool _=>true | .int _=>true | _=>false
noncomputable def LikeOk (σ:Sto) (a b:CV):Prop:=(simple a=true/\simple b=true)∨(∃ x y,a=.str x/\b=.str y)∨(a=.tup []/\∃ L xs ds,b=.ref L/\σ L=some (.list xs)/\wN xs=some ds/\SeqAt.shaped (.list ds)=true)
noncomputable def toP:CV->PyData
 | .bool b=>.bool b
 | .int i=>.int i
 | _=>.none
noncomputable def lW:CV->Bool | .bool _=>true | _=>false
theorem uo {a:CV} (h:simple a=true) (σ:Sto):wl σ a=some (toP a)/\SeqAt.shaped (toP a)=true:=by
 cases a <;> first | exact ⟨rfl,rfl⟩ | exact Bool.noConfusion h
theorem lv {a b:CV} (ha:simple a=true) (hb:simple b=true):like a b=((toP a).eqv (toP b)&&(lW a==lW b)):=by
 cases a <;> first | exact Bool.noConfusion ha | (cases b <;> first | exact Bool.noConfusion hb | rfl | exact (Bool.and_true _).symm | exact (Bool.and_false _).symm)
theorem uq {a b:CV} (hl:LikeOk σ a b) (h:Q (.bool (like a b)) σ):OCd y.c (n+1) [a,b] (.ref 203) Q σ:=by
 refine wfD (fa:=203) rfl (by kernel_rfl) _ (zq (bd2 fun v w=>rfl)) (by kernel_rfl) fun L=>?_
 fail "g"
 rcases hl with ⟨ha,hb⟩ | ⟨x,z,rfl,rfl⟩ | ⟨rfl,M,xs,ds,rfl,hM,hd,hsh⟩
 ·obtain ⟨a1,a2⟩:=uo ha σ
  obtain ⟨b1,b2⟩:=uo hb σ
  refine qn (jP (wh rfl rfl (wh rfl rfl ?_ (by decide)) (by decide)) rfl)
  refine oEq a1 b1 a2 b2 (z0 _ rfl (?_))
  rw [lv ha hb] at h
  cases he:(toP a).eqv (toP b) with
  | false=>rw [he] at h;exact h
  | true =>
   rw [he] at h
   simp only [if_true,Bool.true_and] at h ⊢
   first | with_reducible refine mP ?_ | with_reducible refine qz ?_
   fail "g"
   refine (z0 (lW a) (by cases a <;> first | rfl | exact Bool.noConfusion ha) (?_))
   fail "g"
   refine (z0 (lW b) (by cases b <;> first | rfl | exact Bool.noConfusion hb) (?_))
   fail "n"
   exact oEq (da:=.bool (lW a)) (db:=.bool (lW b)) rfl rfl rfl rfl h
 ·first | with_reducible refine mP ?_ | with_reducible refine qz ?_
  fail "g"
  refine (z0 _ rfl (?_))
  replace h:Q (.bool (x==z)) σ:=h
  cases he:x==z with
  | false=>rw [he] at h;exact Br.neg rfl h
  | true =>
   rw [he] at h
   refine Br.pos rfl ?_
   first | with_reducible refine mP ?_ | with_reducible refine qz ?_
   fail "g"
   refine (z0 false rfl (?_))
   fail "g"
   refine (z0 false rfl (?_))
   fail "n"
   exact oEq (da:=.bool false) (db:=.bool false) rfl rfl rfl rfl h
 ·refine qn (jP (wh rfl rfl (wh rfl rfl ?_ (by decide)) (by decide)) rfl)
  refine oEq (da:=.tuple []) (db:=.list ds) rfl (Option.bind_eq_some_iff.mpr ⟨_,hM,Option.map_eq_some_iff.mpr ⟨ds,hd,rfl⟩⟩) rfl hsh (z0 _ rfl (?_))
  exact h
end

section
variable {y:CW} {n:Nat} {σ:Sto} {Q:CV->Sto->Prop}
structure RMIs (σ:Sto) (rm rdx sa va:Addr) (ps:RM):Prop where
 inst:σ rm=some (.inst 248 rdx)
 attrs:∃ d,σ rdx=some (.attrs [("default",d),("starts",.ref sa),("values",.ref va)])/\σ sa=some (.list ((ps.map (·.1)).map .int))/\σ va=some (.list (ps.map (·.2)))
 ok:RMok ps
theorem RMok.sorted {ps:RM} (h:RMok ps):(ps.map (·.1)).Pairwise (·<=·):=by
 rw [List.pairwise_map]
 exact h.up.imp fun h=>by exact o278 _ _ h
theorem iQ {rm rdx sa va:Addr} {ps:RM} {k:Int} (R:RMIs σ rm rdx sa va ps) (hk:0<=k) (hl:ps.length<=1000) (h:Q (rget ps k) σ):OCd y.c (n+2) [.ref rm,.int k] (.ref 224) Q σ:=by
 refine wfD (fa:=224) rfl (by kernel_rfl) _ (zq (bd2 fun v w=>rfl)) (by kernel_rfl) fun L=>?_
 obtain ⟨hi,⟨d,ha,hsa,hva⟩,ok⟩:=R
 fail "g"
 refine AttrTo.of (x:=rm) (C:=248) (dx:=rdx) rfl (hi) (ha) (by kernel_rfl) (by exact rfl) ?_
 fail "g"
 refine AttrTo.of (x:=rm) (C:=248) (dx:=rdx) rfl (hi) (ha) (by kernel_rfl) (by exact rfl) ?_
 fail "g"
 fail "n";refine (pbh hsa ok.sorted (by simpa using hl) ?_).ow
 have hp:=ok.cnt_pos hk
 fail "n";refine zD (fun _ _=>rfl) hva (o279 _ hp) (cv:=rget ps k) ?_ h
 rw [show ((cnt (ps.map (·.1)) k:Int)-1).toNat=cnt (ps.map (·.1)) k-1 by exact o280 _]
 exact ok.get hk
theorem je {rm rdx:Addr} {v:CV} (hi:σ rm=some (.inst 248 rdx)) (ha:σ rdx=some (.attrs [])) (h:∀ σ' sa va,σ sa=none->σ va=none->RMIs σ' rm rdx sa va [(0,v)]->Same [rdx] σ σ'->Q .none σ'):OCd y.c (n+1) [.ref rm,v] (.ref 217) Q σ:=by
 refine wfD (fa:=217) rfl (by kernel_rfl) _ (zq (bd2 fun v w=>rfl)) (by kernel_rfl) fun L=>?_
 have hne:rm≠rdx:=by rintro rfl;rw [hi] at ha;cases ha
 fail "g"
 refine ⟨rm,248,rdx,_,rfl,hi,ha,by kernel_rfl,by fail "t",?_⟩
 fail "g"
 refine ⟨by fail "t",fun a1 n1=>?_⟩
 fail "g"
 refine ⟨rm,248,rdx,_,rfl,by fail "l",by fail "l",by kernel_rfl,by fail "t",?_⟩
 fail "g"
 refine ⟨by fail "t",fun a2 n2=>?_⟩
 fail "g"
 refine ⟨rm,248,rdx,_,rfl,by fail "l",by fail "l",by kernel_rfl,by fail "t",?_⟩
 fail "g"
 have h1:=zi n1
 have h2:=zi (zi n2).1
 have e1:a1≠rdx:=h1.2
 have e2:a2≠rdx:=(zi n2).2
 have e3:a2≠a1:=h2.2
 refine h _ a1 a2 h1.1 (zi h2.1).1 ⟨by fail "l",(zt v (zb _ _ _) (by fail "l") (by fail "l")),⟨by simp,(zZ v ([]) rfl)⟩⟩ (by fail "sm")
theorem LikeOk.same {σ':Sto} {a b:CV} (s:Same [] σ σ') (h:LikeOk σ a b):LikeOk σ' a b:=by
 rcases h with h | h | ⟨e,M,xs,ds,e',hM,r⟩
 ·exact .inl h
 ·exact .inr (.inl h)
 ·exact .inr (.inr ⟨e,(yn M xs ds e' (s _ _ (by simp) hM) r)⟩)
theorem xe (ps:RM) (f l:Int) (v:CV):(rnew ps f l v).length<=2:=by
 unfold rnew;dsimp only;split <;> split <;> simp
theorem td {ps:RM} (ok:RMok ps) (f l:Int) (v:CV):csl ((ps.map (·.1)).map CV.int) none (some (cnt (ps.map (·.1)) (f-1)))++((rnew ps f l v).map (·.1)).map CV.int++csl ((ps.map (·.1)).map CV.int) (some (cnt (ps.map (·.1)) (l+1))) none=((rput ps f l v).map (·.1)).map CV.int:=by
 have q1:=xU (ps.map (·.1)) (f-1)
 have q2:=xU (ps.map (·.1)) (l+1)
 rw [w5 (o162 _) (by simpa using q1),yo (o162 _) (by simpa using q2)]
 unfold rput
 rw [← (yV ok.up (f-1)).1,← (yV ok.up (l+1)).2]
 simp only [List.map_append,List.map_take,List.map_drop,Int.toNat_natCast]
theorem te {ps:RM} (ok:RMok ps) (f l:Int) (v:CV):csl (ps.map (·.2)) none (some (cnt (ps.map (·.1)) (f-1)))++(rnew ps f l v).map (·.2)++csl (ps.map (·.2)) (some (cnt (ps.map (·.1)) (l+1))) none=(rput ps f l v).map (·.2):=by
 have q1:=xU (ps.map (·.1)) (f-1)
 have q2:=xU (ps.map (·.1)) (l+1)
 rw [List.length_map] at q1 q2
 rw [w5 (o162 _) (by simpa using q1),yo (o162 _) (by simpa using q2)]
 unfold rput
 rw [← (yV ok.up (f-1)).1,← (yV ok.up (l+1)).2]
 simp only [List.map_append,List.map_take,List.map_drop,Int.toNat_natCast]
theorem iR {rm rdx sa va:Addr} {ps:RM} {f l:Int} {v:CV} (R:RMIs σ rm rdx sa va ps) (h1:1<=f) (h2:f<=l) (h3:l<=1000) (hl:ps.length<=900) (k1:LikeOk σ (rget ps (l+1)) v) (k2:LikeOk σ (rget ps (f-1)) v)
  (h:∀ σ' sa' va',σ sa'=none->σ va'=none->RMIs σ' rm rdx sa' va' (rput ps f l v)->Same [rdx] σ σ'->Q .none σ'):OCd y.c (n+3) [.ref rm,.int f,.int l,v] (.ref 231) Q σ:=by
 refine wfD (fa:=231) rfl (by kernel_rfl) _ (zq (bd4 fun v w x z=>rfl)) (by kernel_rfl) fun L=>?_
 obtain ⟨hi,⟨d,ha,hsa,hva⟩,ok⟩:=R
 have hne:rm≠rdx:=by rintro rfl;rw [hi] at ha;cases ha
 have p1:=ok.cnt_pos (k:=f-1) (o281 _ h1)
 have p2:=ok.cnt_pos (k:=l+1) (o135 _ _ h1 h2)
 have q1:=xU (ps.map (·.1)) (f-1)
 have q2:=xU (ps.map (·.1)) (l+1)
 rw [List.length_map] at q1 q2
 fail "if"
 fail "g"
 refine Br.nay (by simp;exact o282 _ _ h2) ?_
 fail "g"
 refine AttrTo.of (x:=rm) (C:=248) (dx:=rdx) rfl (hi) (ha) (by kernel_rfl) (by exact rfl) ?_
 fail "g"
 fail "n";refine (pbh hsa ok.sorted (by simp;exact o283 _ hl) ?_).ow
 refine iA (z:=(cnt (ps.map (·.1)) (f-1):Int)) (o284 _) ?_
 fail "g"
 refine AttrTo.of (x:=rm) (C:=248) (dx:=rdx) rfl (hi) (ha) (by kernel_rfl) (by exact rfl) ?_
 fail "g"
 fail "n";refine (pbh hsa ok.sorted (by simp;exact o283 _ hl) ?_).ow
 refine iA (z:=(cnt (ps.map (·.1)) (l+1):Int)) (o284 _) ?_
 fail "g"
 refine AttrTo.of (x:=rm) (C:=248) (dx:=rdx) rfl (hi) (ha) (by kernel_rfl) (by exact rfl) ?_
 fail "g"
 fail "n";refine zD (fun _ _=>rfl) hva (o279 _ p2) (cv:=rget ps (l+1)) (by rw [show ((cnt (ps.map (·.1)) (l+1):Int)-1).toNat=cnt (ps.map (·.1)) (l+1)-1 by exact o280 _];exact ok.get (o135 _ _ h1 h2)) ?_
 fail "g"
 refine ⟨by fail "t",fun a1 n1=>?_⟩
 fail "g"
 refine ⟨by fail "t",fun a2 n2=>?_⟩
 fail "g"
 refine ⟨by fail "t",(zt _ rfl rfl (?_))⟩
 fail "g"
 have h12:=(zi n2).2
 have n2':=(zi n2).1
 fail "n";refine wt (fun ρ' σ'=>ρ'=([("self",.ref rm),("first",.int f),("last",.int l),("value",v),("low",.int (cnt (ps.map (·.1)) (f-1))),("high",.int (cnt (ps.map (·.1)) (l+1))),("behind",rget ps (l+1)),("starts",.ref a1),("values",.ref a2)]:Loc) /\
  (∃ nw:RM,nw=(if like (rget ps (l+1)) v then [(f,v)] else [(f,v),(l+1,rget ps (l+1))])/\σ' a1=some (.list ((nw.map (·.1)).map .int))/\σ' a2=some (.list (nw.map (·.2))))/\Same [] σ σ') ?_ ?_
 ·have s0:Same [] σ (upd (upd σ a1 (CO.list [.int f])) a2 (CO.list [v])):=by fail "sm"
  fail "g"
  refine Br.pos (by simp;exact o285 _ h3) ?_
  fail "g"
  fail "n";refine (uq (k1.same s0) ?_).ow
  fail "g"
  cases hlk:like (rget ps (l+1)) v with
  | true =>
   fail "g"
   refine (zN _ (?_) rfl ((zt _ rfl (?_) (?_))) s0)
   ·exact ⟨rfl,rfl,rfl,rfl,rfl,rfl,rfl,rfl,rfl,trivial⟩
   ·simp;fail "l"
   ·simp;fail "l"
  | false =>
   fail "g"
   have la1:upd (upd σ a1 (CO.list [.int f])) a2 (CO.list [v]) a1=some (.list [.int f]):=by fail "l"
   refine MethTo.of (zA la1) (zP) ?_
   fail "g"
   fail "n";refine y0 la1 (by fail "t") ⟨rfl,?_⟩
   fail "g"
   have la2:upd (upd (upd σ a1 (CO.list [.int f])) a2 (CO.list [v])) a1 (CO.list ([.int f]++[.int (l+1)])) a2=some (.list [v]):=by fail "l"
   refine MethTo.of (zA la2) (zP) ?_
   fail "g"
   fail "n";refine y0 la2 (by fail "t") ⟨rfl,?_⟩
   fail "g"
   refine (zN _ (?_) rfl ((zt _ rfl (?_) (?_))) (?_))
   ·exact ⟨rfl,rfl,rfl,rfl,rfl,rfl,rfl,rfl,rfl,trivial⟩
   ·simp;fail "l"
   ·simp;fail "l"
   ·fail "sm"
 intro ρ' σ' z1;refine zh (z1) ?_;intro q324 q325 sm;obtain rfl:=q324;refine zm (q325) ?_;intro nw hnw hs1 hs2
 have hi':=sm _ _ (by simp) hi
 have ha':=sm _ _ (by simp) ha
 have hva':=sm _ _ (by simp) hva
 have hsa':=sm _ _ (by simp) hsa
 fail "n";refine wt (fun ρ' σ'=>(∃ b1 b2:Addr,ρ'=([("self",.ref rm),("first",.int f),("last",.int l),("value",v),("low",.int (cnt (ps.map (·.1)) (f-1))),("high",.int (cnt (ps.map (·.1)) (l+1))),("starts",.ref b1),("values",.ref b2)]:Loc) /\
  σ' b1=some (.list (((rnew ps f l v).map (·.1)).map .int))/\σ' b2=some (.list ((rnew ps f l v).map (·.2))))/\Same [] σ σ') ?_ ?_
 ·fail "g"
  refine Br.pos (by simp;exact o286 _ p1) ?_
  fail "g"
  refine AttrTo.of (x:=rm) (C:=248) (dx:=rdx) rfl (hi') (ha') (by kernel_rfl) (by exact rfl) ?_
  fail "g"
  fail "n";refine zD (fun _ _=>rfl) hva' (o279 _ p1) (cv:=rget ps (f-1)) (by rw [show ((cnt (ps.map (·.1)) (f-1):Int)-1).toNat=cnt (ps.map (·.1)) (f-1)-1 by exact o280 _];exact ok.get (o281 _ h1)) ?_
  fail "g"
  fail "n";refine (uq (k2.same sm) ?_).ow
  fail "g"
  have hlen:nw.length<=2:=by rw [hnw];split <;> simp
  have hlen1:1<=nw.length:=by rw [hnw];split <;> simp
  cases hlk:like (rget ps (f-1)) v with
  | true =>
   fail "g"
   refine (z0 _ rfl (?_))
   fail "g"
   refine (zj a1 _ rfl hs1 (fun b1 m1=>?_))
   fail "g"
   refine (z0 _ rfl (?_))
   fail "g"
   refine (zj a2 _ rfl (by fail "l") (fun b2 m2=>?_))
   fail "g"
   refine ⟨by fail "t",(zt _ rfl rfl (?_))⟩
   fail "g"
   have m2':=zi m2
   refine (zt _ (?_) ((zj b1 b2 rfl (?_) (?_))) (by fail "sm"))
   ·exact ⟨rfl,rfl,rfl,rfl,rfl,rfl,rfl,rfl,trivial⟩
   ·have:rnew ps f l v=nw.drop 1:=by unfold rnew;rw [hnw];simp only [hlk,if_true]
    rw [this,List.map_drop,List.map_drop]
    rw [show csl ((nw.map (·.1)).map CV.int) (some 1) none=((nw.map (·.1)).map CV.int).drop 1 from yo (by exact o287) (by simp;exact o288 _ hlen1)] at m2 ⊢
    fail "l"
   ·have:rnew ps f l v=nw.drop 1:=by unfold rnew;rw [hnw];simp only [hlk,if_true]
    rw [this,List.map_drop]
    rw [show csl (nw.map (·.2)) (some 1) none=(nw.map (·.2)).drop 1 from yo (by exact o287) (by simp;exact o288 _ hlen1)]
    fail "l"
  | false =>
   fail "g"
   have:rnew ps f l v=nw:=by unfold rnew;rw [hnw];simp only [hlk,if_false,Bool.false_eq_true]
   rw [this]
   refine (zt _ (?_) ((zj a1 a2 rfl hs1 hs2)) sm)
   exact ⟨rfl,rfl,rfl,rfl,rfl,rfl,rfl,rfl,trivial⟩
 clear hs1 hs2 hnw hi' ha' hva' hsa' sm
 intro ρ' σ' z2;obtain ⟨q326,sm⟩:=z2;refine zg (q326) ?_;intro b1 b2 q327 hb1 hb2;obtain rfl:=q327
 have hi':=sm _ _ (by simp) hi
 have ha':=sm _ _ (by simp) ha
 have hva':=sm _ _ (by simp) hva
 have hsa':=sm _ _ (by simp) hsa
 fail "g"
 refine AttrTo.of (x:=rm) (C:=248) (dx:=rdx) rfl (hi') (ha') (by kernel_rfl) (by exact rfl) ?_
 fail "g"
 refine (z0 _ rfl (?_))
 refine (zj sa _ rfl hsa' (fun r1 m1=>?_))
 fail "g"
 have lr1:(csl ((ps.map (·.1)).map CV.int) none (some (cnt (ps.map (·.1)) (f-1)))).length+(((rnew ps f l v).map (·.1)).map CV.int).length<=90000:=by
  rw [w5 (o162 _) (by simp;exact o289 _ _ q1)]
  have:=xe ps f l v
  simp;exact o290 _ _ _ hl this
 fail "n";refine uQ (zb _ _ _) (by fail "l") (o291 _ _ lr1) fun r2 m2=>?_
 fail "g"
 refine AttrTo.of (x:=rm) (C:=248) (dx:=rdx) rfl (by fail "l") (by fail "l") (by kernel_rfl) (by exact rfl) ?_
 fail "g"
 refine (z0 _ rfl (?_))
 fail "g"
 refine (zj sa _ rfl (by fail "l") (fun r3 m3=>?_))
 fail "n";refine uQ (by fail "l") (zb _ _ _) (by
  rw [yo (o162 _) (by simp;exact o289 _ _ q2),List.length_append]
  simp at lr1 ⊢;exact o292 _ _ _ _ lr1 hl) fun r4 m4=>?_
 fail "g"
 refine ⟨rm,248,rdx,_,rfl,by fail "l",by fail "l",by kernel_rfl,by fail "t",?_⟩
 have w1:va≠rdx:=by rintro rfl;rw [hva] at ha;cases ha
 have w2:b2≠rdx:=by rintro rfl;rw [hb2] at ha';cases ha'
 have w4:rdx≠r4:=zf (cb:=CO.attrs [("default",d),("starts",.ref sa),("values",.ref va)]) (by fail "l") m4
 fail "g"
 refine AttrTo.of (x:=rm) (C:=248) (dx:=rdx) rfl (by fail "l") (by fail "l") (by kernel_rfl) (by exact rfl) ?_
 fail "g"
 refine (z0 _ rfl (?_))
 refine (zj va _ rfl (by fail "l") (fun r5 m5=>?_))
 fail "g"
 have lr5:(csl (ps.map (·.2)) none (some (cnt (ps.map (·.1)) (f-1)))).length+((rnew ps f l v).map (·.2)).length<=90000:=by
  rw [w5 (o162 _) (by simp;exact o289 _ _ q1)]
  have:=xe ps f l v
  simp;exact o290 _ _ _ hl this
 fail "n";refine uQ (zb _ _ _) (by fail "l") (o291 _ _ lr5) fun r6 m6=>?_
 fail "g"
 refine AttrTo.of (x:=rm) (C:=248) (dx:=rdx) rfl (by fail "l") (by fail "l") (by kernel_rfl) (by exact rfl) ?_
 fail "g"
 refine (z0 _ rfl (?_))
 fail "g"
 refine (zj va _ rfl (by fail "l") (fun r7 m7=>?_))
 fail "n";refine uQ (by fail "l") (zb _ _ _) (by
  rw [yo (o162 _) (by simp;exact o289 _ _ q2),List.length_append]
  simp at lr5 ⊢;exact o292 _ _ _ _ lr5 hl) fun r8 m8=>?_
 fail "g"
 refine ⟨rm,248,rdx,_,rfl,by fail "l",by fail "l",by kernel_rfl,by fail "t",?_⟩
 fail "g"
 have w8:rdx≠r8:=zf (cb:=CO.attrs (put [("default",d),("starts",.ref sa),("values",.ref va)] "starts" (.ref r4))) (by fail "l") m8
 have back:∀ {a},σ' a=none->σ a=none:=fun {a} e=>by
  cases q:σ a with
  | none=>rfl
  | some co=>rw [sm a co (by simp) q] at e;cases e
 have z4:σ r4=none:=back (zi (zi (zi m4).1).1).1
 have z8:σ r8=none:=back (zi (zi (zi (zi (zi (zi (zi (zi m8).1).1).1).1).1).1).1).1
 refine h _ r4 r8 z4 z8 ⟨by fail "l",(zt d (zb _ _ _) (?_) (?_)),lg ok h1 h2⟩ ?_
 ·rw [← td ok];fail "l"
 ·rw [← te ok];fail "l"
 ·have sm':Same [rdx] σ σ':=sm.le (by simp)
  fail "sm"
end

section
noncomputable def fill (es:List (Str × CV)) (ks:List Str) (v:CV):List (Str × CV):=ks.foldl (fun a k=>stor a k v) es
theorem yf (v:CV):∀ (ks:List Str) (es:List (Str × CV)),(fill es ks v).length<=es.length+ks.length
 | [],es=>Nat.le_refl _
 | k::ks,es=>by
  have h1:=yf v ks (stor es k v)
  have h2:=yz (es:=es) (k:=k) (v:=v)
  show (fill (stor es k v) ks v).length<=_
  simp only [List.length_cons];exact o293 _ _ _ _ h1 h2
theorem xx {c:Cx} {n:Nat} {env:Env} {own:List Addr} {ρ:Loc} {σ:Sto} {d:Addr} {es:List (Str × CV)} {ep:Nat} {ks:List Str} {v:CV} {iter ce:PySem.Expr} {p1 p2 p3 p4 p5 p6:Pos} {Q:CF->Loc->Sto->Prop}
  (hk1:env.kindOf "name" = some .local) (hk2:env.kindOf "found" = some .local) (hρ:ρ.lookup ("found":Str)=some (.ref d)) (hd:σ d=some (.sdict es ep)) (hl:es.length+ks.length<=1000)
  (hs:∀ x,foldedSetIterable iter env x=pure x) (h1:swapsWith ce (some (.Subscript (.Name "found" p2) (.Name "name" p3) p4)) p5.line env=pure false) (h2:swappedStores [.Subscript (.Name "found" p2) (.Name "name" p3) p4] ce env=pure none)
  (hit:WE c n env own iter (fun v' σ₁=>v'=.tup (ks.map .str)/\σ₁=σ) ρ σ) (hc:∀ ρ σ,WE c n env own ce (fun v' σ₁=>v'=v/\σ₁=σ) ρ σ)
  (hq:∀ σ' ep',σ' d=some (.sdict (fill es ks v) ep')->(∀ b,b≠d->σ' b=σ b)->Q .next [("found",.ref d)] σ') :
  WS c n env own (.For (.Name "name" p1) iter [.Assign [.Subscript (.Name "found" p2) (.Name "name" p3) p4] ce p5] [] p6) Q ρ σ:=by
 refine nT (wm (zE hit ?_)) hs
 intro v' σ₁ z1;obtain ⟨rfl,rfl⟩:=z1
 refine ⟨_,_,tT,fun xs ρ' σ'=>∃ (ks':List Str) (es':List (Str × CV)) (ep':Nat),xs=ks'.map .str/\ρ'=([("found",.ref d)]:Loc)/\σ' d=some (.sdict es' ep')/\es'.length+ks'.length<=1000/\fill es' ks' v=fill es ks v/\(∀ b,b≠d->σ' b=σ₁ b),(z0 ([("found",.ref d)]) (⟨hρ,trivial⟩) (xN ks es ep rfl rfl hd hl rfl (fun _ _=>rfl))),?_⟩
 intro xs ρ' σ' z2;refine tJ (z2) ?_;intro ks' es' ep' q330 q331 hd' hl' hf hb;obtain rfl:=q330;obtain rfl:=q331
 refine ⟨trivial,?_⟩
 cases ks' with
 | nil=>exact hq σ' ep' (by rw [← hf];exact hd') hb
 | cons k r =>
  simp only [List.map_cons]
  refine uP hk1 (yM (vf (zE (hc _ _) ?_) h1 h2 rfl))
  intro v' σ₂ z3;obtain ⟨rfl,rfl⟩:=z3
  refine ku (wh hk2 rfl (wh hk1 (show _=some (CV.str k) by rw [zW,if_pos rfl]) (jE hd' (by simp at hl';exact o294 _ _ hl') fun ep2=>?_) (by decide)) (by decide))
  refine nM (z0 ([("found",.ref d)]) (⟨?_,trivial⟩) (xN r (stor es' k v') ep2 rfl rfl (zb _ _ _) (?_) hf (fun b hb'=>by rw [zB hb'];exact hb b hb')))
  ·show List.lookup _ (put _ _ _)=_;rw [zW,if_neg (show ¬ ("found":Str) = "name" from by decide)];rfl
  ·have:=yz (es:=es') (k:=k) (v:=v');simp at hl';exact o295 _ _ _ hl' this
noncomputable def d0:List (Str × CV):=[("gc",.str "Cn"),("ccc",.int 0),("bc",.str "L"),("lb",.str "XX"),("ea",.str "N"),("sc",.str "Zzzz"),("jt",.str "U"),("incb",.str "None")]
noncomputable def d1:List (Str × CV):=fill d0 ["gcb","wb","sb"] (.str "Other")
noncomputable def d2:List (Str × CV):=fill d1 ["ex","sd","cased","ci","ep","di","ids","idc","xids","xidc","pat_syn","pat_ws","idst"] (.bool false)
noncomputable def d3:List (Str × CV):=fill d2 ["dm","uc","lc","tc","cf","bm","bpb","scx","nt","nv","name","conf","nfkc_cf"] .none
noncomputable def d4:List (Str × CV):=fill d3 ["suc","slc","stc","alias"] (.tup [])
noncomputable def dflts:List (Str × CV):=stor d4 "idna" (.tup [.str "disallowed",.tup []])
theorem me:d1.length<=11:=yf _ ["gcb","wb","sb"] d0
theorem mh:d2.length<=24:=Nat.le_trans (yf _ ["ex","sd","cased","ci","ep","di","ids","idc","xids","xidc","pat_syn","pat_ws","idst"] d1) (Nat.add_le_add_right me 13)
theorem mi:d3.length<=37:=Nat.le_trans (yf _ ["dm","uc","lc","tc","cf","bm","bpb","scx","nt","nv","name","conf","nfkc_cf"] d2) (Nat.add_le_add_right mh 13)
theorem jf:d4.length<=41:=Nat.le_trans (yf _ ["suc","slc","stc","alias"] d3) (Nat.add_le_add_right mi 4)
variable {y:CW} {n:Nat} {σ:Sto} {Q:CV->Sto->Prop}
theorem ur (h:∀ d σ' ep,σ d=none->σ' d=some (.sdict dflts ep)->(∀ b,b≠d->σ' b=σ b)->Q (.ref d) σ'):OCd y.c (n+1) [] (.ref 259) Q σ:=by
 refine wfD (fa:=259) rfl (by kernel_rfl) [] (zq fun h vals V=>(z0 ([]) (?_) rfl)) (by kernel_rfl) fun L=>?_
 ·obtain rfl:=VRs.nil_iff.mp V;rfl
 fail "g"
 refine (zN d0 rfl (by fail "t") (of_decide_eq_true (by kernel_rfl)) (fun d ep nd=>?_))
 fail "g"
 fail "n";refine xr ?_
 with_reducible refine' xx (d:=d) (es:=d0) (ks:=["gcb","wb","sb"]) (v:=.str "Other") ?q1a ?q1b ?q1c ?q1d ?q1e ?q1f ?q1g ?q1h ?q1i ?q1j ?_
 case q1a=>kernel_rfl
 case q1b=>kernel_rfl
 case q1c=>exact rfl
 case q1d=>exact zb _ _ _
 case q1e=>fail "t"
 case q1f=>exact fun _=>rfl
 case q1g=>exact rfl
 case q1h=>exact rfl
 case q1i=>fail "g";exact ⟨by fail "t",rfl,rfl⟩
 case q1j=>intro ρ σ;fail "g";exact ⟨rfl,rfl⟩
 intro σ1 e1 hd1 hb1
 fail "n";refine xr ?_
 with_reducible refine' xx (d:=d) (es:=d1) (ks:=["ex","sd","cased","ci","ep","di","ids","idc","xids","xidc","pat_syn","pat_ws","idst"]) (v:=.bool false) ?q2a ?q2b ?q2c ?q2d ?q2e ?q2f ?q2g ?q2h ?q2i ?q2j ?_
 case q2a=>kernel_rfl
 case q2b=>kernel_rfl
 case q2c=>exact rfl
 case q2d=>exact hd1
 case q2e=>have:=me;simp only [List.length_cons,List.length_nil];exact o296 _ this
 case q2f=>exact fun _=>rfl
 case q2g=>exact rfl
 case q2h=>exact rfl
 case q2i=>fail "g";exact ⟨by fail "t",rfl,rfl⟩
 case q2j=>intro ρ σ;fail "g";exact ⟨rfl,rfl⟩
 intro σ2 e2 hd2 hb2
 fail "n";refine xr ?_
 with_reducible refine' xx (d:=d) (es:=d2) (ks:=["dm","uc","lc","tc","cf","bm","bpb","scx","nt","nv","name","conf","nfkc_cf"]) (v:=.none) ?q3a ?q3b ?q3c ?q3d ?q3e ?q3f ?q3g ?q3h ?q3i ?q3j ?_
 case q3a=>kernel_rfl
 case q3b=>kernel_rfl
 case q3c=>exact rfl
 case q3d=>exact hd2
 case q3e=>have:=mh;simp only [List.length_cons,List.length_nil];exact o297 _ this
 case q3f=>exact fun _=>rfl
 case q3g=>exact rfl
 case q3h=>exact rfl
 case q3i=>fail "g";exact ⟨by fail "t",rfl,rfl⟩
 case q3j=>intro ρ σ;fail "g";exact ⟨rfl,rfl⟩
 intro σ3 e3 hd3 hb3
 fail "n";refine xr ?_
 with_reducible refine' xx (d:=d) (es:=d3) (ks:=["suc","slc","stc","alias"]) (v:=.tup []) ?q4a ?q4b ?q4c ?q4d ?q4e ?q4f ?q4g ?q4h ?q4i ?q4j ?_
 case q4a=>kernel_rfl
 case q4b=>kernel_rfl
 case q4c=>exact rfl
 case q4d=>exact hd3
 case q4e=>have:=mi;simp only [List.length_cons,List.length_nil];exact o298 _ this
 case q4f=>exact fun _=>rfl
 case q4g=>exact rfl
 case q4h=>exact rfl
 case q4i=>fail "g";exact ⟨by fail "t",rfl,rfl⟩
 case q4j=>intro ρ σ;fail "g";exact ⟨by fail "t",rfl,rfl⟩
 intro σ4 e4 hd4 hb4
 fail "g"
 refine ⟨by fail "t",?_⟩
 fail "g"
 refine ⟨by fail "t",?_⟩
 fail "g"
 refine jE (es:=d4) hd4 (by have:=jf;exact o299 _ this) fun e5=>?_
 fail "g"
 refine h d _ e5 nd (zb _ _ _) fun b hb=>?_
 rw [zB hb,hb4 b hb,hb3 b hb,hb2 b hb,hb1 b hb,zB hb]
end

section
structure MapE where
 name:Str
 rm:Addr
 rdx:Addr
 sa:Addr
 va:Addr
 ps:RM
noncomputable def gets (L:List MapE) (name:Str) (k:Int):CV:=match L.find? (fun e=>e.name=name) with
 | some e=>rget e.ps k
 | none=>(dflts.lookup name).getD .none
noncomputable def MapE.foot (e:MapE):List Addr:=[e.rm,e.rdx,e.sa,e.va]
structure DataAt (keep σ:Sto) (d ddx df mp:Addr) (L:List MapE) (N:Nat):Prop where
 inst:σ d=some (.inst 297 ddx)
 attrs:∃ pr wd,σ ddx=some (.attrs [("defaults",.ref df),("maps",.ref mp),("properties",pr),("words",wd)])
 dfs:∃ ep,σ df=some (.sdict dflts ep)
 maps:∃ ep,σ mp=some (.sdict (L.map fun e=>(e.name,.ref e.rm)) ep)
 each:∀ e∈L,RMIs σ e.rm e.rdx e.sa e.va e.ps/\e.ps.length<=N
 ne1:mp≠df
 ne2:∀ e∈L,e.rdx≠ddx
 nd:(L.map (·.rdx)).Nodup
 names:(L.map (·.name)).Nodup
 kept:∀ a co,keep a=some co->σ a=some co/\a∉[d,ddx,df,mp]/\∀ e∈L,a∉e.foot
noncomputable def DataIs (keep σ:Sto) (d:Addr) (N M:Nat) (G:Str->Int->CV):Prop:=∃ ddx df mp L,DataAt keep σ d ddx df mp L N/\L.length<=M/\∀ name k,0<=k->G name k=gets L name k
theorem RMIs.to {σ σ':Sto} {rm rdx sa va:Addr} {ps:RM} (R:RMIs σ rm rdx sa va ps) (h:∀ a co,a∈[rm,rdx,sa,va]->σ a=some co->σ' a=some co):RMIs σ' rm rdx sa va ps:=by
 obtain ⟨h1,⟨dd,h2,h3,h4⟩,h5⟩:=R
 exact ⟨h _ _ (by simp) h1,(zt dd (h _ _ (by simp) h2) (h _ _ (by simp) h3) (h _ _ (by simp) h4)),h5⟩
theorem RMIs.there {σ:Sto} {rm rdx sa va:Addr} {ps:RM} (R:RMIs σ rm rdx sa va ps):∀ a∈[rm,rdx,sa,va],∃ co,σ a=some co:=by
 obtain ⟨h1,⟨dd,h2,h3,h4⟩,h5⟩:=R
 intro a ha
 simp only [List.mem_cons,List.not_mem_nil,or_false] at ha
 rcases ha with rfl | rfl | rfl | rfl
 ·exact ⟨_,h1⟩
 ·exact ⟨_,h2⟩
 ·exact ⟨_,h3⟩
 ·exact ⟨_,h4⟩
theorem yg (L:List MapE) (name:Str):(L.map fun e=>(e.name,CV.ref e.rm)).lookup name=(L.find? (fun e=>e.name=name)).map fun e=>.ref e.rm:=by
 induction L with
 | nil=>rfl
 | cons e r ih =>
  rw [List.map_cons,List.lookup_cons,List.find?_cons]
  by_cases h:e.name=name
  ·subst h;simp
  ·have:(name==e.name)=false:=beq_eq_false_iff_ne.mpr fun z=>h z.symm
   simp only [this,h,decide_false];exact ih
theorem DataAt.to {keep keep' σ σ':Sto} {d ddx df mp:Addr} {L:List MapE} {N:Nat} (D:DataAt keep σ d ddx df mp L N) (h:∀ a co,(a∈[d,ddx,df,mp]∨∃ e∈L,a∈e.foot)->σ a=some co->σ' a=some co)
  (hk:∀ a co,keep' a=some co->σ' a=some co/\a∉[d,ddx,df,mp]/\∀ e∈L,a∉e.foot):DataAt keep' σ' d ddx df mp L N:=by
 refine ⟨h _ _ (.inl (by simp)) D.inst,?_,?_,?_,fun e he=>⟨(D.each e he).1.to fun a co ha hc=>h a co (.inr (z0 e he ha)) hc,(D.each e he).2⟩,D.ne1,D.ne2,D.nd,D.names,hk⟩
 ·refine zL (D.attrs) ?_;intro pr wd h';exact (zZ pr wd (h _ _ (.inl (by simp)) h'))
 ·obtain ⟨ep,h'⟩:=D.dfs;exact ⟨ep,h _ _ (.inl (by simp)) h'⟩
 ·obtain ⟨ep,h'⟩:=D.maps;exact ⟨ep,h _ _ (.inl (by simp)) h'⟩
theorem DataAt.there {keep σ:Sto} {d ddx df mp:Addr} {L:List MapE} {N:Nat} (D:DataAt keep σ d ddx df mp L N):∀ a,(a∈[d,ddx,df,mp]∨∃ e∈L,a∈e.foot)->∃ co,σ a=some co:=by
 rintro a (ha | ⟨e,he,ha⟩)
 ·simp only [List.mem_cons,List.not_mem_nil,or_false] at ha
  rcases ha with rfl | rfl | rfl | rfl
  ·exact ⟨_,D.inst⟩
  ·refine zL (D.attrs) ?_;intro pr wd h;exact ⟨_,h⟩
  ·obtain ⟨ep,h⟩:=D.dfs;exact ⟨_,h⟩
  ·obtain ⟨ep,h⟩:=D.maps;exact ⟨_,h⟩
 ·exact (D.each e he).1.there a ha
theorem DataIs.same {keep σ σ':Sto} {d:Addr} {N M:Nat} {G:Str->Int->CV} (D:DataIs keep σ d N M G) (s:Same [] σ σ'):DataIs keep σ' d N M G:=by
 refine x5 (D) ?_;intro ddx df mp L D hl hG
 exact (wg ddx df mp L (D.to (fun a co _ h=>s a co (by simp) h) (fun a co h=>zY (D.kept a co h) fun h1 h2=>⟨s a co (by simp) h1,h2⟩)) hl hG)
theorem DataIs.protect {keep σ:Sto} {d a:Addr} {co:CO} {N M:Nat} {G:Str->Int->CV} (D:DataIs keep σ d N M G) (n:σ a=none):DataIs (upd keep a co) (upd σ a co) d N M G:=by
 refine x5 (D) ?_;intro ddx df mp L D hl hG
 have key:¬ (a∈[d,ddx,df,mp]∨∃ e∈L,a∈e.foot):=fun h=>by obtain ⟨c,e⟩:=D.there a h;rw [e] at n;cases n
 refine (wg ddx df mp L (D.to (fun b cb _ h=>zk h n) (fun b cb h=>?_)) hl hG)
 by_cases q:b=a
 ·subst q
  rw [zb] at h;cases h
  exact ⟨zb _ _ _,fun z=>key (.inl z),fun e he z=>key (.inr (z0 e he z))⟩
 ·rw [zB q] at h
  obtain ⟨h1,h2⟩:=D.kept b cb h
  exact ⟨by rw [zB q];exact h1,h2⟩
theorem DataIs.kept {keep σ:Sto} {d a:Addr} {co:CO} {N M:Nat} {G:Str->Int->CV} (D:DataIs keep σ d N M G) (hk:keep a=some co):σ a=some co:=x0 (D) fun _ _ _ _ D _=>(D.kept a co hk).1
variable {y:CW} {n:Nat} {σ:Sto} {Q:CV->Sto->Prop}
theorem vN {keep:Sto} {d:Addr} {N M:Nat} {G:Str->Int->CV} {name:Str} {k:Int} (D:DataIs keep σ d N M G) (hN:N<=1000) (hk:0<=k) (h:Q (G name k) σ):OCd y.c (n+3) [.ref d,.str name,.int k] (.ref 287) Q σ:=by
 refine wfD (fa:=287) rfl (by kernel_rfl) _ (zq (bd3 fun v w x=>rfl)) (by kernel_rfl) fun L=>?_
 refine x5 (D) ?_;intro ddx df mp L D hl hG
 refine zL (D.attrs) ?_;intro pr wd ha
 obtain ⟨e1,hdf⟩:=D.dfs
 obtain ⟨e2,hmp⟩:=D.maps
 have hg:=hG name k hk
 fail "if"
 fail "g"
 refine AttrTo.of (x:=d) (C:=297) (dx:=ddx) rfl (D.inst) (ha) (by kernel_rfl) (by exact rfl) ?_
 fail "n";refine gJ hmp ?_
 rw [yg]
 cases hf:L.find? (fun e=>e.name=name) with
 | none =>
  fail "g"
  refine AttrTo.of (x:=d) (C:=297) (dx:=ddx) rfl (D.inst) (ha) (by kernel_rfl) (by exact rfl) ?_
  refine MethTo.of (tW hdf) (zP) ?_
  fail "g"
  fail "n";refine kt hdf ?_
  unfold gets at hg
  rw [hf] at hg
  rw [hg] at h;exact h
 | some e =>
  have he:=List.mem_of_find?_eq_some hf
  have hlk:(L.map fun e=>(e.name,CV.ref e.rm)).lookup name=some (.ref e.rm):=by rw [yg,hf];rfl
  fail "g"
  refine AttrTo.of (x:=d) (C:=297) (dx:=ddx) rfl (D.inst) (ha) (by kernel_rfl) (by exact rfl) ?_
  fail "g"
  fail "n";refine wP (fun _ _=>rfl) hmp hlk ?_
  obtain ⟨R,hlen⟩:=D.each e he
  refine za (R.attrs) ?_;intro dd hra _
  refine MethTo.of (zw R.inst hra (f:=224) (by kernel_rfl) rfl) (zu rfl) ?_
  fail "g"
  fail "n";refine (iQ R hk (o300 _ _ hlen hN) ?_).ow
  unfold gets at hg
  rw [hf] at hg
  rw [hg] at h;exact h
end

section
variable {y:CW} {n:Nat} {σ:Sto} {Q:CV->Sto->Prop}
noncomputable def dflt (name:Str):CV:=(dflts.lookup name).getD .none
theorem oC {keep:Sto} {x dx:Addr} (hx:σ x=some (.inst 297 dx)) (hd:σ dx=some (.attrs [])) (hk:∀ a co,keep a=some co->σ a=some co/\a≠x/\a≠dx)
  (h:∀ σ',DataIs keep σ' x 1 0 (fun name _=>dflt name)->Q .none σ'):OCd y.c (n+2) [.ref x] (.ref 273) Q σ:=by
 refine wfD (fa:=273) rfl (by kernel_rfl) _ (zq (bd1 fun v=>rfl)) (by kernel_rfl) fun L=>?_
 have hne:x≠dx:=by rintro rfl;rw [hx] at hd;cases hd
 fail "g"
 fail "n";refine (ur fun df σ1 e1 nf hdf hb=>?_).ow
 have ox:x≠df:=zf hx nf
 have od:dx≠df:=zf hd nf
 have hx1:σ1 x=some (.inst 297 dx):=by rw [hb x ox];exact hx
 have hd1:σ1 dx=some (.attrs []):=by rw [hb dx od];exact hd
 fail "g"
 refine ⟨x,297,dx,_,rfl,hx1,hd1,by kernel_rfl,by fail "t",?_⟩
 fail "g"
 with_reducible refine uS fun mp nm=>?_
 fail "g"
 refine ⟨x,297,dx,_,rfl,by fail "l",by fail "l",by kernel_rfl,by fail "t",?_⟩
 fail "g"
 with_reducible refine uS fun pr np=>?_
 fail "g"
 refine ⟨x,297,dx,_,rfl,by fail "l",by fail "l",by kernel_rfl,by fail "t",?_⟩
 fail "g"
 with_reducible refine uS fun wd nw=>?_
 fail "g"
 refine ⟨x,297,dx,_,rfl,by fail "l",by fail "l",by kernel_rfl,by fail "t",?_⟩
 fail "g"
 have odm:mp≠dx:=(zi nm).2
 have ofd:df≠dx:=Ne.symm od
 have m1:=(zi nm).1
 refine h _ (wg dx df mp ([]) (⟨by fail "l",(zZ (.ref pr) (.ref wd) (zb _ _ _)),⟨e1,by fail "l"⟩,⟨0,by fail "l"⟩,(fun e he=>nomatch he),?_,(fun e he=>nomatch he),List.nodup_nil,List.nodup_nil,fun a co ha=>⟨?_,?_,fun e he=>nomatch he⟩⟩) (Nat.le_refl _) (fun name k _=>rfl))
 ·rintro rfl;rw [hdf] at m1;cases m1
 ·refine zh (hk a co ha) ?_;intro h1 h2 h3
  have h4:a≠df:=zf h1 nf
  have h5:σ1 a=some co:=by rw [hb a h4];exact h1
  fail "l"
 ·refine zh (hk a co ha) ?_;intro h1 h2 h3
  have h4:a≠df:=zf h1 nf
  have h5:σ1 a=some co:=by rw [hb a h4];exact h1
  have h6:a≠mp:=zf h5 m1
  simp [h2,h3,h4,h6]
theorem oD (h:∀ x σ',DataIs σ σ' x 1 0 (fun name _=>dflt name)->Q (.ref x) σ'):OW y.c (n+3) VR [] (zQ (.ref 297)) Q σ :=
 pQ (fI:=273) (by kernel_rfl) (by kernel_rfl) (by kernel_rfl) fun x dx nx nd hne=>oC (keep:=σ) (zb _ _ _) (zn (Ne.symm hne) (zb _ _ _))
  (fun a co e=>⟨zn (zf e nx) (zn (zf e nd) e),zf e nx,zf e nd⟩) fun σ' D=>⟨rfl,h x σ' D⟩
theorem jg {v:CV} (h:∀ rm rdx σ' sa va,σ rm=none->σ rdx=none->σ sa=none->σ va=none->RMIs σ' rm rdx sa va [(0,v)]->Same [] σ σ'->Q (.ref rm) σ'):OW y.c (n+2) VR [v] (zQ (.ref 248)) Q σ :=
 pQ (fI:=217) (by kernel_rfl) (by kernel_rfl) (by kernel_rfl) fun x dx nx nd hne=>je (zb _ _ _) (zn (Ne.symm hne) (zb _ _ _)) fun σ' sa va ns nv R sm =>
  ⟨rfl,h x dx σ' sa va nx nd (zi (zi ns).1).1 (zi (zi nv).1).1 R fun a co _ e=>sm a co (by simpa using zf e nd) (zn (zf e nx) (zn (zf e nd) e))⟩
theorem us {L:List MapE} {e:MapE} {nm:Str} (h:L.find? (fun e=>e.name=nm)=none∨e.name≠nm):(L++[e]).find? (fun e=>e.name=nm)=if e.name=nm then some e else L.find? (fun e=>e.name=nm):=by
 rw [List.find?_append]
 by_cases q:e.name=nm
 ·rcases h with h | h
  ·simp [h,q]
  ·exact absurd q h
 ·simp [q]
theorem mapOf {keep:Sto} {d ddx df mp:Addr} {L:List MapE} {N:Nat} {name:Str} (D:DataAt keep σ d ddx df mp L N) (hN:1<=N) (hlen:L.length<=50)
  (h:∀ σ' L' e,DataAt keep σ' d ddx df mp L' N->e∈L'->e.name=name->L'.length<=L.length+1->(∀ nm k,0<=k->gets L' nm k=gets L nm k)->Q (.ref e.rm) σ'):OCd y.c (n+3) [.ref d,.str name] (.ref 294) Q σ:=by
 refine wfD (fa:=294) rfl (by kernel_rfl) _ (zq (bd2 fun v w=>rfl)) (by kernel_rfl) fun M=>?_
 refine zL (D.attrs) ?_;intro pr wd ha
 obtain ⟨e1,hdf⟩:=D.dfs
 obtain ⟨e2,hmp⟩:=D.maps
 fail "if"
 fail "g"
 refine AttrTo.of (x:=d) (C:=297) (dx:=ddx) rfl (D.inst) (ha) (by kernel_rfl) (by exact rfl) ?_
 fail "n";refine mJ hmp ?_
 rw [yg]
 cases hf:L.find? (fun e=>e.name=name) with
 | some e =>
  have he:=List.mem_of_find?_eq_some hf
  have hlk:(L.map fun e=>(e.name,CV.ref e.rm)).lookup name=some (.ref e.rm):=by rw [yg,hf];rfl
  have hnm:e.name=name:=by simpa using List.find?_some hf
  fail "g"
  refine AttrTo.of (x:=d) (C:=297) (dx:=ddx) rfl (D.inst) (ha) (by kernel_rfl) (by exact rfl) ?_
  fail "g"
  fail "n";refine wP (fun _ _=>rfl) hmp hlk ?_
  exact h σ L e D he hnm (Nat.le_succ _) fun _ _ _=>rfl
 | none =>
  fail "g"
  refine AttrTo.of (x:=d) (C:=297) (dx:=ddx) rfl (D.inst) (ha) (by kernel_rfl) (by exact rfl) ?_
  refine MethTo.of (tW hdf) (zP) ?_
  fail "g"
  fail "n";refine kt hdf ?_
  fail "g"
  refine jg fun rm rdx σ1 sa va nrm nrdx nsa nva R sm=>?_
  have t:∀ {a co},σ a=some co->σ1 a=some co:=fun e=>sm _ _ (by simp) e
  fail "g"
  refine AttrTo.of (x:=d) (C:=297) (dx:=ddx) rfl (t D.inst) (t ha) (by kernel_rfl) (by exact rfl) ?_
  fail "g"
  have hl0:(L.map fun e=>(e.name,CV.ref e.rm)).length<100000:=by simp;exact o301 _ hlen
  refine jE (t hmp) hl0 fun e3=>?_
  have hno:name∉(L.map fun e=>(e.name,CV.ref e.rm)).map (·.1):=by
   intro hm
   simp only [List.map_map,List.mem_map,Function.comp] at hm
   refine za (hm) ?_;intro e he q334;obtain rfl:=q334
   have:=List.find?_eq_none.mp hf e he
   simp at this
  rw [w3 hno]
  have tm:∀ {a co},a≠mp->σ a=some co->upd σ1 mp (CO.sdict ((L.map fun e=>(e.name,CV.ref e.rm))++[(name,.ref rm)]) e3) a=some co:=fun q e=>zn q (t e)
  fail "g"
  have nedm:d≠mp:=by rintro rfl;have:=D.inst;rw [hmp] at this;cases this
  have nexm:ddx≠mp:=by rintro rfl;rw [hmp] at ha;cases ha
  have nefm:df≠mp:=Ne.symm D.ne1
  refine AttrTo.of (x:=d) (C:=297) (dx:=ddx) rfl (tm nedm D.inst) (tm nexm ha) (by kernel_rfl) (by exact rfl) ?_
  fail "g"
  have hlk2:((L.map fun e=>(e.name,CV.ref e.rm))++[(name,CV.ref rm)]).lookup name=some (.ref rm):=by
   rw [List.lookup_append,yg,hf];simp
  fail "n";refine wP (fun _ _=>rfl) (zb _ _ _) hlk2 ?_
  have R':RMIs (upd σ1 mp (CO.sdict ((L.map fun e=>(e.name,CV.ref e.rm))++[(name,.ref rm)]) e3)) rm rdx sa va [(0,(dflts.lookup name).getD .none)]:=R.to fun a co ha e=>by
   have q:a≠mp:=by
    simp only [List.mem_cons,List.not_mem_nil,or_false] at ha
    have:=zf hmp nrm;have:=zf hmp nrdx;have:=zf hmp nsa;have:=zf hmp nva
    rcases ha with rfl | rfl | rfl | rfl <;> exact Ne.symm (by assumption)
   exact zn q e
  refine h _ (L++[⟨name,rm,rdx,sa,va,[(0,(dflts.lookup name).getD .none)]⟩]) ⟨name,rm,rdx,sa,va,[(0,(dflts.lookup name).getD .none)]⟩ ?_ (by simp) rfl (by simp) ?_
  ·refine ⟨tm nedm D.inst,(zZ pr wd (tm nexm ha)),⟨e1,tm nefm hdf⟩,⟨e3,by rw [zb];simp⟩,fun e he=>?_,D.ne1,fun e he=>?_,?_,?_,fun a co hk=>?_⟩
   ·rcases List.mem_append.mp he with he | he
    ·refine ⟨(D.each e he).1.to fun a co hmem e'=>?_,(D.each e he).2⟩
     have q:a≠mp:=by
      obtain ⟨x1,⟨dd,x2,x3,x4⟩,_⟩:=(D.each e he).1
      rintro rfl
      simp only [List.mem_cons,List.not_mem_nil,or_false] at hmem
      rcases hmem with rfl | rfl | rfl | rfl
      ·rw [hmp] at x1;cases x1
      ·rw [hmp] at x2;cases x2
      ·rw [hmp] at x3;cases x3
      ·rw [hmp] at x4;cases x4
     exact tm q e'
    ·rw [List.mem_singleton] at he;subst he
     exact ⟨R',hN⟩
   ·rcases List.mem_append.mp he with he | he
    ·exact D.ne2 e he
    ·rw [List.mem_singleton] at he;subst he
     exact Ne.symm (zf ha nrdx)
   ·rw [List.map_append,List.nodup_append]
    refine ⟨D.nd,by simp,fun a ha' b hb=>?_⟩
    simp at hb;subst hb
    refine za (List.mem_map.mp ha') ?_;intro e he q335;obtain rfl:=q335
    obtain ⟨_,⟨dd,x2,_⟩,_⟩:=(D.each e he).1
    exact zf x2 nrdx
   ·rw [List.map_append,List.nodup_append]
    refine ⟨D.names,by simp,fun a ha' b hb=>?_⟩
    simp at hb;subst hb
    refine za (List.mem_map.mp ha') ?_;intro e he q336;obtain rfl:=q336
    rintro rfl
    exact hno (List.mem_map.mpr (z0 ((e.name,.ref e.rm)) (List.mem_map.mpr (z0 e he rfl)) rfl))
   ·refine zh (D.kept a co hk) ?_;intro h1 h2 h3
    have q:a≠mp:=by simp at h2;exact h2.2.2.2
    refine ⟨tm q h1,h2,fun e he=>?_⟩
    rcases List.mem_append.mp he with he | he
    ·exact h3 e he
    ·rw [List.mem_singleton] at he;subst he
     simp [MapE.foot,zf h1 nrm,zf h1 nrdx,zf h1 nsa,zf h1 nva]
  ·intro nm k hk
   unfold gets
   by_cases q:name=nm
   ·subst q
    rw [us (.inl hf),if_pos rfl,hf]
    simp [rget,hk]
   ·rw [us (.inr q),if_neg q]
end

section
theorem f4 {h:Heap} {a b d e g:CV} {vals:List Value} (V:VRs h [a,b,d,e,g] vals):∃ v w x z u,vals=[v,w,x,z,u]/\VR h a v/\VR h b w/\VR h d x/\VR h e z/\VR h g u:=by
 refine zg (V.inv) ?_;rintro v r rfl h1 V;refine tN (iP V) ?_;intro w x z u q338 h2 h3 h4 h5;obtain rfl:=q338;exact (rT v w x z u rfl h1 h2 h3 h4 h5)
theorem bd5 {fd:FuncData} {n1 n2 n3 n4 n5:Str} {a b d g i:CV} (e:∀ v w x z u,bindArgs fd ⟨[v,w,x,z,u],[]⟩=pure [(n1,v),(n2,w),(n3,x),(n4,z),(n5,u)]):∀ (h:Heap) vals,VRs h [a,b,d,g,i] vals->∃ binds,bindArgs fd ⟨vals,[]⟩=pure binds/\Binds h [(n1,a),(n2,b),(n3,d),(n4,g),(n5,i)] binds:=fun h vals V=>by
 refine wR (f4 V) ?_;intro v w x z u q339 h1 h2 h3 h4 h5;obtain rfl:=q339;exact (z0 _ (e v w x z u) (by exact (zj _ _ rfl h1 (zj _ _ rfl h2 (zj _ _ rfl h3 (zj _ _ rfl h4 (zj _ _ rfl h5 rfl)))))))
variable {y:CW} {n:Nat} {σ:Sto} {Q:CV->Sto->Prop}
theorem qM {L:List MapE} (hn:(L.map (·.name)).Nodup) {e:MapE} (he:e∈L):L.find? (fun x=>x.name=e.name)=some e:=by
 induction L with
 | nil=>cases he
 | cons a r ih =>
  rw [List.map_cons,List.nodup_cons] at hn
  rw [List.find?_cons]
  rcases List.mem_cons.mp he with rfl | he
  ·simp
  ·have:a.name≠e.name:=fun z=>hn.1 (z ▸ List.mem_map_of_mem he)
   simp [this,ih hn.2 he]
theorem oE {L:List MapE} {g:MapE->Addr} (hn:(L.map g).Nodup) {x e:MapE} (hx:x∈L) (he:e∈L) (h:g x=g e):x=e:=by
 induction L with
 | nil=>cases hx
 | cons a r ih =>
  rw [List.map_cons,List.nodup_cons] at hn
  rcases List.mem_cons.mp hx with e1 | hx' <;> rcases List.mem_cons.mp he with e2 | he'
  ·rw [e1,e2]
  ·exact absurd (by rw [← e1,h];exact List.mem_map_of_mem he') hn.1
  ·exact absurd (by rw [← e2,← h];exact List.mem_map_of_mem hx') hn.1
  ·exact ih hn.2 hx' he'
theorem ww {α:Type} (p q:α->Bool) (h:∀ x,¬ (p x=true/\q x=true)):∀ l:List α,(l.filter p).length+(l.filter q).length<=l.length
 | []=>by simp
 | x::r=>by
  have ih:=ww p q h r
  have hx:=h x
  cases hp:p x <;> cases hq:q x <;> simp [List.filter_cons,hp,hq] at hx ⊢ <;> (first | exact o302 _ _ _ ih | exact o303 _ _ _ ih | exact o304 _ _ _ ih)
theorem tf (ps:RM) (f l:Int) (v:CV) (h:f<=l):(rput ps f l v).length<=ps.length+2:=by
 have h1:=xe ps f l v
 have h2:=ww (fun p:Int × CV=>decide (p.1<=f-1)) (fun p=>decide (l+1<p.1)) (fun x=>by simp;exact o305 _ _ _ h) ps
 unfold rput
 simp only [List.length_append]
 exact o306 _ _ _ _ h2 h1
noncomputable def MapE.with (e:MapE) (sa va:Addr) (ps:RM):MapE:={ e with sa:=sa,va:=va,ps:=ps }
theorem yF {keep:Sto} {d:Addr} {N M:Nat} {G:Str->Int->CV} {name:Str} {f l:Int} {v:CV} (D:DataIs keep σ d N M G) (hN:1<=N) (hN':N<=500) (hM:M<=50) (h1:1<=f) (h2:f<=l) (h3:l<=1000)
  (hv:∀ σ',(∀ a co,keep a=some co->σ' a=some co)->LikeOk σ' (G name (l+1)) v/\LikeOk σ' (G name (f-1)) v)
  (h:∀ σ',DataIs keep σ' d (N+2) (M+1) (fun nm k=>if nm=name/\f<=k/\k<=l then v else G nm k)->Q .none σ'):OCd y.c (n+4) [.ref d,.str name,.int f,.int l,v] (.ref 280) Q σ:=by
 refine wfD (fa:=280) rfl (by kernel_rfl) _ (zq (bd5 fun v w x z u=>rfl)) (by kernel_rfl) fun M=>?_
 refine x5 (D) ?_;intro ddx df mp L D hl hG
 refine zL (D.attrs) ?_;intro pr wd ha
 fail "g"
 refine MethTo.of (zw D.inst ha (f:=294) (by kernel_rfl) rfl) (zu rfl) ?_
 fail "g"
 fail "n";refine (mapOf D hN (o307 _ _ hl hM) fun σ1 L' e D' he hen hlen hgets=>?_).ow
 obtain ⟨R,hps⟩:=D'.each e he
 refine zm (R.attrs) ?_;intro dd hra hrs hrv
 refine MethTo.of (zw R.inst hra (f:=231) (by kernel_rfl) rfl) (zu rfl) ?_
 fail "g"
 have hfind:L'.find? (fun x=>x.name=name)=some e:=hen ▸ qM D'.names he
 have hg:∀ k,0<=k->rget e.ps k=G name k:=fun k hk=>by
  rw [hG name k hk,← hgets name k hk];unfold gets;rw [hfind]
 obtain ⟨lk1,lk2⟩:=hv σ1 fun a co hk=>(D'.kept a co hk).1
 fail "n";refine (iR R h1 h2 h3 (o308 _ _ hps hN') (by rw [hg _ (o135 _ _ h1 h2)];exact lk1) (by rw [hg _ (o281 _ h1)];exact lk2) fun σ2 sa' va' nsa nva R2 sm=>?_).ow
 refine ⟨rfl,?_⟩
 fail "g"
 have off:∀ {a co},σ1 a=some co->(∀ fs,co≠.attrs fs)->σ2 a=some co:=fun {a co} e1 hne=>sm a co (by
  simp only [List.mem_singleton];rintro rfl;rw [hra] at e1;cases e1;exact hne _ rfl) e1
 have offr:∀ {a co},a≠e.rdx->σ1 a=some co->σ2 a=some co:=fun {a co} q e1=>sm a co (by simpa using q) e1
 refine h σ2 (wg ddx df mp (L'.map fun x=>if x.name=name then x.with sa' va' (rput e.ps f l v) else x) (⟨off D'.inst (by simp),?_,?_,?_,?_,D'.ne1,?_,?_,?_,?_⟩) (by rw [List.length_map];exact o309 _ _ _ hlen hl) (fun nm k hk=>?_))
 ·refine zL (D'.attrs) ?_;intro pr wd h';exact (zZ pr wd (offr (fun z=>D'.ne2 e he z.symm) h'))
 ·obtain ⟨ep,h'⟩:=D'.dfs;exact ⟨ep,off h' (by simp)⟩
 ·obtain ⟨ep,h'⟩:=D'.maps
  refine ⟨ep,(off h' (by simp)).trans ?_⟩
  rw [List.map_map]
  congr 2
  refine List.map_congr_left fun x _=>?_
  simp only [Function.comp]
  split <;> rfl
 ·intro x hx
  refine za (List.mem_map.mp hx) ?_;intro z hz q340;obtain rfl:=q340
  obtain ⟨Rz,hpz⟩:=D'.each z hz
  by_cases q:z.name=name
  ·obtain rfl:z=e:=by
    have h1:=qM D'.names hz
    rw [q,hfind] at h1;cases h1;rfl
   rw [if_pos q]
   exact ⟨R2,by have:=tf z.ps f l v h2;show (rput z.ps f l v).length<=N+2;exact o310 _ _ _ this hpz⟩
  ·rw [if_neg q]
   have hne:z.rdx≠e.rdx:=fun w=>q ((oE D'.nd hz he w) ▸ hen)
   refine ⟨Rz.to fun a co hm e1=>?_,by exact o311 _ _ hpz⟩
   obtain ⟨x1,⟨dz,x2,x3,x4⟩,_⟩:=Rz
   simp only [List.mem_cons,List.not_mem_nil,or_false] at hm
   rcases hm with rfl | rfl | rfl | rfl
   ·exact off e1 (by rw [x1] at e1;cases e1;simp)
   ·exact offr hne e1
   ·exact off e1 (by rw [x3] at e1;cases e1;simp)
   ·exact off e1 (by rw [x4] at e1;cases e1;simp)
 ·intro x hx
  refine za (List.mem_map.mp hx) ?_;intro z hz q341;obtain rfl:=q341
  split
  ·exact D'.ne2 z hz
  ·exact D'.ne2 z hz
 ·have:(L'.map fun x=>if x.name=name then x.with sa' va' (rput e.ps f l v) else x).map (·.rdx)=L'.map (·.rdx):=by
   rw [List.map_map];refine List.map_congr_left fun x _=>?_
   simp only [Function.comp];split <;> rfl
  rw [this];exact D'.nd
 ·have:(L'.map fun x=>if x.name=name then x.with sa' va' (rput e.ps f l v) else x).map (·.name)=L'.map (·.name):=by
   rw [List.map_map];refine List.map_congr_left fun x _=>?_
   simp only [Function.comp];split <;> rfl
  rw [this];exact D'.names
 ·intro a co hk
  refine zh (D'.kept a co hk) ?_;intro z1 z2 z3
  refine ⟨offr (fun z=>z3 e he (by simp [MapE.foot,z])) z1,z2,fun x hx=>?_⟩
  refine za (List.mem_map.mp hx) ?_;intro z hz q342;obtain rfl:=q342
  have h3':=z3 z hz
  split
  ·simp only [MapE.foot,MapE.with,List.mem_cons,List.not_mem_nil,or_false,not_or] at h3' ⊢
   exact ⟨h3'.1,h3'.2.1,zf z1 nsa,zf z1 nva⟩
  ·exact h3'
 ·-- what is asked for now
  have hfm:(L'.map fun x=>if x.name=name then x.with sa' va' (rput e.ps f l v) else x).find? (fun x=>x.name=nm)=(L'.find? (fun x=>x.name=nm)).map fun x=>if x.name=name then x.with sa' va' (rput e.ps f l v) else x:=by
   rw [List.find?_map]
   congr 1
   congr 1
   funext x
   simp only [Function.comp]
   split <;> rfl
  show (if nm=name/\f<=k/\k<=l then v else G nm k)=_
  unfold gets
  rw [hfm]
  by_cases q:nm=name
  ·subst q
   rw [hfind]
   simp only [Option.map_some,hen,if_true,true_and,MapE.with]
   rw [oj R.ok h1 h2 hk,hg k hk]
  ·rw [if_neg (fun z=>q z.1),hG nm k hk,← hgets nm k hk]
   unfold gets
   cases hf2:L'.find? (fun x=>x.name=nm) with
   | none=>rfl
   | some z =>
    have hz:z.name=nm:=by simpa using List.find?_some hf2
    simp only [Option.map_some]
    rw [if_neg (by rw [hz];exact q)]
end

section
variable {y:CW} {n:Nat} {σ:Sto} {Q:CV->Sto->Prop}
structure WordCtx (σ:Sto) (tx d:Addr) (text:List Int) (row:List Str) (pic:Nat->Bool):Prop where
 tx:σ tx=some (.list (text.map .int))
 data:∃ keep N M G,DataIs keep σ d N M G/\N<=1000/\∀ (i:Nat) k,text[i]?=some k->0<=k/\G "wb" k=.str (ze row i)/\G "ep" k=.bool (pic i)
 len:row.length=text.length
 bound:text.length<=1000
noncomputable def yY (σ:Sto) (v tx d:Addr):Prop:=∃ dx,σ v=some (.inst 353 dx)/\σ dx=some (.attrs [("text",.ref tx),("data",.ref d)])
theorem ut {tx d v:Addr} {text:List Int} {row:List Str} {pic:Nat->Bool} {i:Int} (C:WordCtx σ tx d text row pic) (P:yY σ v tx d) (h:Q (.str (ze row i)) σ):OCd y.c (n+4) [.ref v,.int i] (.ref 329) Q σ:=by
 refine wfD (fa:=329) rfl (by kernel_rfl) _ (zq (bd2 fun v w=>rfl)) (by kernel_rfl) fun L=>?_
 refine za (P) ?_;intro dx hv hdx
 refine x5 (C.data) ?_;intro keep N M G D hN hG
 have hlen:=C.len
 fail "g"
 refine (z0 _ rfl (?_))
 by_cases h0:0<=i
 ·first | refine Br.yes h0 ?_ | refine Br.eqT h0 ?_ | refine Br.zT h0 ?_ | refine Br.pos (by simpa using h0) ?_
  fail "g"
  refine AttrTo.of (x:=v) (C:=353) (dx:=dx) rfl (hv) (hdx) (by kernel_rfl) (by exact rfl) ?_
  fail "g"
  fail "n";refine xR C.tx ?_
  fail "g"
  refine (z0 _ rfl (?_))
  by_cases h1:i<text.length
  ·first | refine Br.yes h1 ?_ | refine Br.eqT h1 ?_ | refine Br.zT h1 ?_ | refine Br.pos (by simpa using h1) ?_
   fail "g"
   refine AttrTo.of (x:=v) (C:=353) (dx:=dx) rfl (hv) (hdx) (by kernel_rfl) (by exact rfl) ?_
   refine x0 (id D) ?_;intro ddx df mp LL DA _
   refine zL (DA.attrs) ?_;intro pr wd hda
   refine MethTo.of (zw DA.inst hda (f:=287) (by kernel_rfl) rfl) (zu rfl) ?_
   fail "g"
   refine AttrTo.of (x:=v) (C:=353) (dx:=dx) rfl (hv) (hdx) (by kernel_rfl) (by exact rfl) ?_
   fail "g"
   have hi:text[i.toNat]?=some (text[i.toNat]'(o312 _ _ h0 h1)):=List.getElem?_eq_getElem (o312 _ _ h0 h1)
   fail "n";refine zD (fun _ _=>rfl) C.tx h0 (cv:=.int (text[i.toNat]'(o312 _ _ h0 h1))) (by rw [List.getElem?_map,hi];rfl) ?_
   fail "g"
   refine zh (hG _ _ hi) ?_;intro g1 g2 g3
   fail "n";refine (vN D hN g1 ?_).ow
   rw [g2,show ((i.toNat:Nat):Int)=i by exact o313 _ h0]
   exact h
  ·first | refine Br.no h1 ?_ | refine Br.eqF h1 ?_ | refine Br.zF h1 ?_ | refine Br.nay (by simpa using h1) ?_
   fail "g"
   have:ze row i = "":=by unfold ze;rw [if_neg (by rw [hlen];exact o314 _ _ h1)]
   rw [this] at h;exact h
 ·first | refine Br.no h0 ?_ | refine Br.eqF h0 ?_ | refine Br.zF h0 ?_ | refine Br.nay (by simpa using h0) ?_
  fail "g"
  have:ze row i = "":=by unfold ze;rw [if_neg (o315 _ _ h0)]
  rw [this] at h;exact h
theorem qN (row:List Str):∀ i,0<=scn row i->skp row (scn row i)=false
 | 0,h=>by simp [scn] at h
 | i+1,h=>by
  unfold scn at h ⊢
  split
  ·rename_i h';rw [if_pos h'] at h;exact qN row i h
  ·rename_i h';simpa using h'
theorem jh {row:List Str} {i:Nat} {j:Int} (h1:-1<=j) (h2:j<i) (h3:∀ k:Int,j<k->k<i->skp row k=true) (h4:j<0∨skp row j=false):j=scn row i:=by
 obtain ⟨b1,b2⟩:=uk row i
 by_cases c1:scn row i<j
 ·have:=t9 row i j c1 h2
  rcases h4 with h4 | h4
  ·exact o316 _ _ b1 h4 c1
  ·rw [this] at h4;cases h4
 ·by_cases c2:j<scn row i
  ·have e1:=h3 _ c2 b2
   have e2:=qN row i (o317 _ _ h1 c2)
   rw [e1] at e2;cases e2
  ·exact o318 _ _ c2 c1
theorem mj {tx d v:Addr} {text:List Int} {row:List Str} {pic:Nat->Bool} {i:Nat} (C:WordCtx σ tx d text row pic) (P:yY σ v tx d) (hi:i<=text.length) (h:Q (.int (lft row i)) σ):OCd y.c (n+5) [.ref v,.int i] (.ref 336) Q σ:=by
 refine wfD (fa:=336) rfl (by kernel_rfl) _ (zq (bd2 fun v w=>rfl)) (by kernel_rfl) fun L=>?_
 refine za (id P) ?_;intro dx hv hdx
 fail "g"
 fail "n";with_reducible refine' xc (fun m ρ σ'=>∃ j:Int,-1<=j/\j<i/\(∀ k:Int,j<k->k<i->skp row k=true)/\m=(j+1).toNat/\ρ=([("self",.ref v),("at",.int i),("left",.int j)]:Loc)/\σ'=σ) i ?w1 ?_
 case w1=>exact (z0 _ ((by exact ⟨rfl,rfl,rfl,trivial⟩)) (tI (i-1) (o319 _) (o320 _) (fun k h1 h2=>by exact (o321 _ _ h1 h2).elim) (o322 _) rfl rfl))
 intro T hT;intro m ρ σ' z1;refine nB (z1) ?_;intro j h1 h2 h3 q343 q344 q345;obtain rfl:=q343;obtain rfl:=q344;obtain rfl:=q345
 fail "g"
 have fin:(j<0∨skp row j=false)->lft row i=if j<(i:Int)-1/\(j<0∨endd row j=true) then j+1 else j:=fun h4=>by
  rw [w6];unfold plft;rw [← jh h1 h2 h3 h4]
 by_cases c0:0<=j
 ·first | refine Br.yes c0 ?_ | refine Br.eqT c0 ?_ | refine Br.zT c0 ?_ | refine Br.pos (by simpa using c0) ?_
  fail "g"
  refine MethTo.of (zw hv hdx (f:=329) (by kernel_rfl) rfl) (zu rfl) ?_
  fail "g"
  fail "n";refine (ut C P ?_).ow
  fail "g"
  cases hk:SKP.contains (ze row j) with
  | true =>
   fail "g"
   refine (zj j.toNat _ (o323 _ c0) (?_) (tI (j-1) (o324 _ c0) (o325 _ _ h2) (fun k h4 h5=>?_) (o326 _) rfl rfl))
   ·exact ⟨rfl,rfl,rfl,trivial⟩
   ·by_cases q:k=j
    ·subst q;exact hk
    ·exact h3 k (o327 _ _ h4 q) h5
  | false =>
   have hl:=fin (.inr hk)
   fail "g"
   fail "if"
   fail "g"
   by_cases c1:j<(i:Int)-1
   ·first | refine Br.yes c1 ?_ | refine Br.eqT c1 ?_ | refine Br.zT c1 ?_ | refine Br.pos (by simpa using c1) ?_
    fail "g"
    first | refine Br.no c0 ?_ | refine Br.eqF c0 ?_ | refine Br.zF c0 ?_ | refine Br.nay (by simpa using c0) ?_
    fail "g"
    refine MethTo.of (zw hv hdx (f:=329) (by kernel_rfl) rfl) (zu rfl) ?_
    fail "g"
    fail "n";refine (ut C P ?_).ow
    fail "g"
    cases he:ENDS.contains (ze row j) with
    | true =>
     fail "g"
     rw [hl,if_pos ⟨c1,.inr he⟩] at h;exact h
    | false =>
     fail "g"
     rw [hl,if_neg (fun z=>z.2.elim (o328 _ c0) (by unfold endd;rw [he];decide))] at h;exact h
   ·first | refine Br.no c1 ?_ | refine Br.eqF c1 ?_ | refine Br.zF c1 ?_ | refine Br.nay (by simpa using c1) ?_
    fail "g"
    rw [hl,if_neg (fun z=>c1 z.1)] at h;exact h
 ·have hl:=fin (.inl (o329 _ c0))
  first | refine Br.no c0 ?_ | refine Br.eqF c0 ?_ | refine Br.zF c0 ?_ | refine Br.nay (by simpa using c0) ?_
  fail "g"
  fail "if"
  fail "g"
  by_cases c1:j<(i:Int)-1
  ·first | refine Br.yes c1 ?_ | refine Br.eqT c1 ?_ | refine Br.zT c1 ?_ | refine Br.pos (by simpa using c1) ?_
   fail "g"
   refine Br.pos (by simp;exact o329 _ c0) ?_
   fail "g"
   rw [hl,if_pos ⟨c1,.inl (o329 _ c0)⟩] at h;exact h
  ·first | refine Br.no c1 ?_ | refine Br.eqF c1 ?_ | refine Br.zF c1 ?_ | refine Br.nay (by simpa using c1) ?_
   fail "g"
   rw [hl,if_neg (fun z=>c1 z.1)] at h;exact h
theorem lw {tx d v:Addr} {text:List Int} {row:List Str} {pic:Nat->Bool} {i:Nat} (C:WordCtx σ tx d text row pic) (P:yY σ v tx d) (h:Q (.int (rgt row (fuel row) i)) σ):OCd y.c (n+5) [.ref v,.int i] (.ref 343) Q σ:=by
 refine wfD (fa:=343) rfl (by kernel_rfl) _ (zq (bd2 fun v w=>rfl)) (by kernel_rfl) fun L=>?_
 refine za (id P) ?_;intro dx hv hdx
 have hlen:=C.len
 fail "n";with_reducible refine' xc (fun m ρ σ'=>∃ j f:Nat,rgt row f j=rgt row (fuel row) i/\row.length<j+f/\m=f/\ρ=([("self",.ref v),("at",.int j)]:Loc)/\σ'=σ) (fuel row) ?w1 ?_
 case w1=>exact (z0 _ ((by exact ⟨rfl,rfl,trivial⟩)) (we i (fuel row) rfl (by unfold fuel;exact o330 _ _) rfl rfl rfl))
 intro T hT;intro f ρ σ' z2;refine rM (z2) ?_;intro j f' h1 h2 e q346 q347;obtain rfl:=q346;obtain rfl:=q347
 subst e
 fail "g"
 refine AttrTo.of (x:=v) (C:=353) (dx:=dx) rfl (hv) (hdx) (by kernel_rfl) (by exact rfl) ?_
 fail "g"
 fail "n";refine xR C.tx ?_
 fail "g"
 by_cases c0:j<row.length
 ·refine Br.pos (by simp;exact o29 _ _ _ c0 hlen) ?_
  fail "g"
  refine MethTo.of (zw hv hdx (f:=329) (by kernel_rfl) rfl) (zu rfl) ?_
  fail "g"
  fail "n";refine (ut C P ?_).ow
  fail "g"
  cases f with
  | zero=>exact (o331 _ _ h2 c0).elim
  | succ f =>
   cases hk:SKP.contains (ze row j) with
   | true =>
    fail "g"
    refine (zj f _ (o332 _) (?_) (we (j+1) f (?_) (o250 _ _ _ h2) rfl rfl rfl))
    ·exact ⟨rfl,rfl,trivial⟩
    ·rw [← h1];show _=if j<row.length/\skp row j=true then _ else _;rw [if_pos ⟨c0,hk⟩]
   | false =>
    fail "g"
    have:rgt row (f+1) j=j:=by show (if j<row.length/\skp row j=true then _ else _)=_;rw [if_neg (fun z=>by have:=z.2;unfold skp at this;rw [hk] at this;cases this)]
    rw [← h1,this] at h;exact h
 ·refine Br.nay (by simp;exact o333 _ _ _ hlen c0) ?_
  fail "g"
  have:rgt row f j=j:=by cases f with | zero=>rfl | succ f=>show (if j<row.length/\skp row j=true then _ else _)=_;rw [if_neg (fun z=>c0 z.1)]
  rw [← h1,this] at h;exact h
theorem lx {tx d v:Addr} {text:List Int} {row:List Str} {pic:Nat->Bool} {i:Int} (C:WordCtx σ tx d text row pic) (P:yY σ v tx d) (hi:-1<=i) (hi':i<text.length) (h:Q (.int (flg row (fuel row) i)) σ):OCd y.c (n+6) [.ref v,.int i] (.ref 350) Q σ:=by
 refine wfD (fa:=350) rfl (by kernel_rfl) _ (zq (bd2 fun v w=>rfl)) (by kernel_rfl) fun L=>?_
 refine za (id P) ?_;intro dx hv hdx
 have hlen:=C.len
 fail "g"
 fail "n";with_reducible refine' xc (fun m ρ σ'=>∃ (j:Int) (k f:Nat),k+flg row f j=flg row (fuel row) i/\j<f/\-1<=j/\j<text.length/\m=f/\ρ=([("self",.ref v),("index",.int j),("many",.int k)]:Loc)/\σ'=σ) (fuel row) ?w1 ?_
 case w1=>exact (z0 _ ((by exact ⟨rfl,rfl,rfl,trivial⟩)) (tK i 0 (fuel row) (o334 _) (by unfold fuel;exact o335 _ _ _ hi' hlen) hi hi' rfl rfl rfl))
 intro T hT;intro f ρ σ' z3;refine nF (z3) ?_;intro j k f' h1 h2 h3 h4 e q348 q349;obtain rfl:=q348;obtain rfl:=q349
 subst e
 fail "g"
 by_cases c0:0<=j
 ·first | refine Br.yes c0 ?_ | refine Br.eqT c0 ?_ | refine Br.zT c0 ?_ | refine Br.pos (by simpa using c0) ?_
  fail "g"
  refine MethTo.of (zw hv hdx (f:=329) (by kernel_rfl) rfl) (zu rfl) ?_
  fail "g"
  fail "n";refine (ut C P ?_).ow
  fail "g"
  cases f with
  | zero=>exact (o336 _ c0 h2).elim
  | succ f =>
   cases hk:ze row j=="Regional_Indicator" with
   | true =>
    have hk':=eq_of_beq hk
    fail "g"
    refine MethTo.of (zw hv hdx (f:=336) (by kernel_rfl) rfl) (zu rfl) ?_
    fail "g"
    have hjn:((j.toNat:Nat):Int)=j:=by exact o313 _ c0
    have b:=si row j.toNat
    rw [← hjn]
    fail "n";refine (mj (i:=j.toNat) C P (o337 _ _ h4) ?_).ow
    fail "g"
    refine (zj f _ (o332 _) (?_) (tK (lft row j.toNat) (k+1) f (?_) (o159 _ _ _ b h2) (o338 _ _ b) (o339 _ _ _ b h4) rfl rfl rfl))
    ·exact ⟨rfl,rfl,rfl,trivial⟩
    ·have e:flg row (f+1) j=flg row f (lft row j.toNat)+1:=by show (if 0<=j/\ze row j = "Regional_Indicator" then _ else _)=_;rw [if_pos ⟨c0,hk'⟩]
     exact o340 _ _ _ _ h1 e
   | false =>
    fail "g"
    have e:flg row (f+1) j=0:=by show (if 0<=j/\ze row j = "Regional_Indicator" then _ else _)=_;rw [if_neg (fun z=>by rw [z.2] at hk;exact absurd hk (by decide))]
    have:k=flg row (fuel row) i:=by exact o341 _ _ _ h1 e
    rw [← this] at h;exact h
 ·first | refine Br.no c0 ?_ | refine Br.eqF c0 ?_ | refine Br.zF c0 ?_ | refine Br.nay (by simpa using c0) ?_
  fail "g"
  have e:flg row f j=0:=by cases f with | zero=>rfl | succ f=>show (if 0<=j/\ze row j = "Regional_Indicator" then _ else _)=_;rw [if_neg (fun z=>c0 z.1)]
  have:k=flg row (fuel row) i:=by exact o341 _ _ _ h1 e
  rw [← this] at h;exact h
end

section
variable {y:CW} {n:Nat} {σ:Sto} {Q:CV->Sto->Prop}
theorem wx {one bt other:Str} (h:Q (.bool (bridges one bt other)) σ):OCd y.c (n+1) [.str one,.str bt,.str other] (.ref 411) Q σ:=by
 refine wfD (fa:=411) rfl (by kernel_rfl) _ (zq (bd3 fun v w x=>rfl)) (by kernel_rfl) fun L=>?_
 unfold bridges at h
 fail "n";with_reducible refine' y4 (zJ (bs:=[LETTERS.contains one,LETTERS.contains other,INLET.contains bt]) ?a1 ⟨rfl,rfl⟩) ?_ ?_
 case a1=>refine ⟨?_,fun _=>⟨?_,fun _=>⟨?_,fun _=>trivial⟩⟩⟩ <;> fail "o"
 ·intro ht
  fail "g"
  simp only [List.all_cons,List.all_nil,id,Bool.and_true] at ht
  rw [Bool.and_assoc,ht] at h;exact h
 intro hf
 simp only [List.all_cons,List.all_nil,id,Bool.and_true] at hf
 rw [Bool.and_assoc,hf] at h
 simp only [Bool.false_eq_true,if_false] at h
 fail "g"
 fail "n";with_reducible refine' y4 (zJ (bs:=[one=="Numeric",other=="Numeric"]) ?a2 ⟨rfl,rfl⟩) ?_ ?_
 case a2=>refine ⟨?_,fun _=>⟨?_,fun _=>trivial⟩⟩ <;> fail "o"
 ·intro ht
  fail "g"
  simp only [List.all_cons,List.all_nil,id,Bool.and_true] at ht
  rw [if_pos ht] at h;exact h
 intro hf
 simp only [List.all_cons,List.all_nil,id,Bool.and_true] at hf
 rw [if_neg (by rw [hf];decide)] at h
 fail "g"
 with_reducible refine' uU (bs:=[one=="Hebrew_Letter",other=="Hebrew_Letter",bt=="Double_Quote"]) ?b1 ?b2 ?b3
 case b1=>simp
 case b2=>refine ⟨?_,fun _=>⟨?_,fun _=>⟨?_,fun _=>trivial⟩⟩⟩ <;> fail "o"
 refine (?_:Q _ σ)
 simpa [Bool.and_assoc] using h
structure ViewAt (y:CW) (m:Nat) (σ:Sto) (v tx d:Addr) (text:List Int) (row:List Str) (C dx:Addr) (fs:Loc) (fl fr fso ff:Addr):Prop where
 inst:σ v=some (.inst C dx)
 attrs:σ dx=some (.attrs fs)
 oktx:wj y.c.K C "text" = true
 okd:wj y.c.K C "data" = true
 tx:fs.lookup ("text":Str)=some (.ref tx)
 d:fs.lookup ("data":Str)=some (.ref d)
 ml:wW y.c.K C "left" fl=true/\fs.lookup ("left":Str)=none/\keepIn y.c.K (.ref fl)=true
 mr:wW y.c.K C "right" fr=true/\fs.lookup ("right":Str)=none/\keepIn y.c.K (.ref fr)=true
 ms:wW y.c.K C "sort" fso=true/\fs.lookup ("sort":Str)=none/\keepIn y.c.K (.ref fso)=true
 mf:wW y.c.K C "flags" ff=true/\fs.lookup ("flags":Str)=none/\keepIn y.c.K (.ref ff)=true
 left:∀ (i:Nat) (Q:CV->Sto->Prop),i<=text.length->Q (.int (lft row i)) σ->OW y.c m VR [.ref v,.int i] (zQ (.ref fl)) Q σ
 right:∀ (i:Nat) (Q:CV->Sto->Prop),i<=text.length->Q (.int (rgt row (fuel row) i)) σ->OW y.c m VR [.ref v,.int i] (zQ (.ref fr)) Q σ
 sort:∀ (i:Int) (Q:CV->Sto->Prop),Q (.str (ze row i)) σ->OW y.c m VR [.ref v,.int i] (zQ (.ref fso)) Q σ
 flags:∀ (i:Nat) (Q:CV->Sto->Prop),i<text.length->Q (.int (flg row (fuel row) i)) σ->OW y.c m VR [.ref v,.int i] (zQ (.ref ff)) Q σ
noncomputable def su (y:CW) (m:Nat) (σ:Sto) (v tx d:Addr) (text:List Int) (row:List Str):Prop:=∃ C dx fs fl fr fso ff,ViewAt y m σ v tx d text row C dx fs fl fr fso ff
theorem rh {m:Nat} {v tx d:Addr} {text:List Int} {row:List Str} {i:Nat} (V:su y (m+1) σ v tx d text row) (hlen:row.length=text.length) (h0:0<i) (hi:i<text.length) (h:Q (.bool (joined row i)) σ):OCd y.c (m+2) [.ref v,.int i] (.ref 418) Q σ:=by
 refine wfD (fa:=418) rfl (by kernel_rfl) _ (zq (bd2 fun v w=>rfl)) (by kernel_rfl) fun L=>?_
 refine nJ (V) ?_;intro C dx fs fl fr fso ff V
 obtain ⟨b1,b2⟩:=si row i
 have b3:=v6 row h0
 unfold joined at h
 dsimp only at h
 fail "g"
 refine MethTo.of (zw V.inst V.attrs V.ml.1 V.ml.2.1) (zu V.ml.2.2) ?_
 fail "g"
 refine V.left i _ (o257 _ _ hi) ?_
 fail "g"
 refine MethTo.of (zw V.inst V.attrs V.ms.1 V.ms.2.1) (zu V.ms.2.2) ?_
 fail "g"
 refine V.sort i _ ?_
 fail "g"
 refine ⟨by fail "t",(zt _ rfl rfl (?_))⟩
 fail "g"
 refine MethTo.of (zw V.inst V.attrs V.ms.1 V.ms.2.1) (zu V.ms.2.2) ?_
 fail "g"
 refine V.sort (lft row i) _ ?_
 fail "g"
 generalize hl:lft row i=lf at *
 generalize hh:ze row lf=here at *
 generalize ha:ze row i=after at *
 unfold pjoin at h
 fail "n";with_reducible refine' y4 (v:=after=="ExtendNumLet") ?c1 ?_ ?_
 case c1=>fail "o"
 ·intro ht
  rw [if_pos ht] at h
  fail "g"
  with_reducible refine' hW (bs:=[here==after,JOINED.contains here]) ?d1 ?d2 ?d3
  case d1=>simp
  case d2=>refine ⟨?_,fun _=>⟨?_,fun _=>trivial⟩⟩ <;> fail "o"
  refine (?_:Q _ σ)
  simpa using h
 intro hf
 rw [if_neg (by rw [hf];decide)] at h
 fail "g"
 fail "n";with_reducible refine' y4 (v:=here=="ExtendNumLet") ?e1 ?_ ?_
 case e1=>fail "o"
 ·intro ht
  rw [if_pos ht] at h
  fail "g"
  exact h
 intro hf2
 rw [if_neg (by rw [hf2];decide)] at h
 fail "g"
 fail "n";with_reducible refine' y4 (vz (bs:=[here=="Katakana",after=="Katakana"]) ?f1 ⟨rfl,rfl⟩) ?_ ?_
 case f1=>refine ⟨?_,fun _=>⟨?_,fun _=>trivial⟩⟩ <;> fail "o"
 ·intro ht
  simp only [List.any_cons,List.any_nil,id,Bool.or_false] at ht
  rw [if_pos ht] at h
  fail "g"
  exact h
 intro hf3
 simp only [List.any_cons,List.any_nil,id,Bool.or_false] at hf3
 rw [if_neg (by rw [hf3];decide)] at h
 fail "g"
 fail "n";with_reducible refine' y4 (v:=here=="Regional_Indicator") ?g1 ?_ ?_
 case g1=>fail "o"
 ·intro ht
  rw [if_pos ht] at h
  fail "g"
  with_reducible refine' uU (bs:=[after==here,flg row (fuel row) lf % 2==1]) ?i1 ?i2 ?i3
  case i1=>simp
  case i2 =>
   refine ⟨?_,fun _=>⟨?_,fun _=>trivial⟩⟩
   ·fail "o"
   ·fail "g"
    refine MethTo.of (zw V.inst V.attrs V.mf.1 V.mf.2.1) (zu V.mf.2.2) ?_
    fail "g"
    have e1:((lf.toNat:Nat):Int)=lf:=by exact o313 _ b3
    rw [← e1]
    refine V.flags lf.toNat _ (o342 _ _ _ b2 hi) ?_
    fail "g"
    fail "n";refine qf (by decide) ?_
    fail "g"
    refine ⟨?_,rfl⟩
    rw [e1]
    congr 1
    rw [Int.fmod_eq_emod_of_nonneg _ (by decide),Bool.eq_iff_iff,beq_iff_eq,beq_iff_eq]
    exact o343 _
  refine (?_:Q _ σ)
  simpa using h
 intro hf4
 rw [if_neg (by rw [hf4];decide)] at h
 fail "g"
 fail "n";with_reducible refine' y4 (zJ (bs:=[PLAIN.contains here,PLAIN.contains after]) ?j1 ⟨rfl,rfl⟩) ?_ ?_
 case j1=>refine ⟨?_,fun _=>⟨?_,fun _=>trivial⟩⟩ <;> fail "o"
 ·intro ht
  simp only [List.all_cons,List.all_nil,id,Bool.and_true] at ht
  rw [if_pos ht] at h
  fail "g"
  exact h
 intro hf5
 simp only [List.all_cons,List.all_nil,id,Bool.and_true] at hf5
 rw [if_neg (by rw [hf5];decide)] at h
 fail "g"
 fail "n";with_reducible refine' y4 (zJ (bs:=[here=="Hebrew_Letter",after=="Single_Quote"]) ?l1 ⟨rfl,rfl⟩) ?_ ?_
 case l1=>refine ⟨?_,fun _=>⟨?_,fun _=>trivial⟩⟩ <;> fail "o"
 ·intro ht
  simp only [List.all_cons,List.all_nil,id,Bool.and_true] at ht
  rw [if_pos ht] at h
  fail "g"
  exact h
 intro hf6
 simp only [List.all_cons,List.all_nil,id,Bool.and_true] at hf6
 rw [if_neg (by rw [hf6];decide)] at h
 fail "g"
 fail "n";with_reducible refine' y4 (v:=PLAIN.contains here) ?m1 ?_ ?_
 case m1=>fail "o"
 ·intro ht
  rw [if_pos ht] at h
  fail "g"
  refine MethTo.of (zw V.inst V.attrs V.ms.1 V.ms.2.1) (zu V.ms.2.2) ?_
  fail "g"
  refine MethTo.of (zw V.inst V.attrs V.mr.1 V.mr.2.1) (zu V.mr.2.2) ?_
  fail "g"
  refine V.right (i+1) _ (o235 _ _ hi) ?_
  fail "g"
  refine V.sort _ _ ?_
  fail "g"
  exact (wx h).ow
 intro hf7
 rw [if_neg (by rw [hf7];decide)] at h
 fail "g"
 fail "n";with_reducible refine' y4 (v:=PLAIN.contains after) ?n1 ?_ ?_
 case n1=>fail "o"
 ·intro ht
  rw [if_pos ht] at h
  fail "g"
  refine MethTo.of (zw V.inst V.attrs V.ms.1 V.ms.2.1) (zu V.ms.2.2) ?_
  fail "g"
  refine MethTo.of (zw V.inst V.attrs V.ml.1 V.ml.2.1) (zu V.ml.2.2) ?_
  fail "g"
  have e1:((lf.toNat:Nat):Int)=lf:=by exact o313 _ b3
  rw [← e1]
  refine V.left lf.toNat _ (o344 _ _ _ b2 hi) ?_
  fail "g"
  refine V.sort _ _ ?_
  fail "g"
  exact (wx h).ow
 intro hf8
 rw [if_neg (by rw [hf8];decide)] at h
 fail "g"
 exact h
end

section
variable {y:CW} {n:Nat} {σ:Sto} {Q:CV->Sto->Prop}
theorem OW.le {c:Cx} {α γ:Type} {R:Heap->γ->α->Prop} {args:List CV} {f:List Value->Sem α} {Q:γ->Sto->Prop} {n m:Nat} (h:OW c n R args f Q σ) (hn:n<=m):OW c m R args f Q σ:=.mk fun A s vals hR G V=>h.go A s vals (hR.le hn) G V
theorem OCd.le {c:Cx} {args:List CV} {f:Value} {n m:Nat} (h:OCd c n args f Q σ) (hn:n<=m):OCd c m args f Q σ:=fun A s vals hR G V=>h A s vals (hR.le hn) G V
theorem sv {m:Nat} {v tx d:Addr} {text:List Int} {row:List Str} {pic:Nat->Bool} {i:Int} (V:su y (m+4) σ v tx d text row) (W:WordCtx σ tx d text row pic) (h:Q (.bool (rule row pic i)) σ):OCd y.c (m+6) [.ref v,.int i] (.ref 425) Q σ:=by
 refine wfD (fa:=425) rfl (by kernel_rfl) _ (zq (bd2 fun v w=>rfl)) (by kernel_rfl) fun L=>?_
 have VV:=V
 refine nJ (V) ?_;intro C dx fs fl fr fso ff V
 have hlen:=W.len
 unfold rule at h
 fail "g"
 refine ⟨v,C,dx,fs,_,rfl,V.inst,V.attrs,V.oktx,V.tx,?_⟩
 fail "g"
 fail "n";refine xR W.tx ?_
 fail "g"
 fail "n";with_reducible refine' y4 (vz (bs:=[decide (i<=0),decide ((text.length:Int)<=i)]) ?a1 ⟨rfl,rfl⟩) ?_ ?_
 case a1 =>
  refine ⟨?_,fun _=>⟨?_,fun _=>trivial⟩⟩
  ·fail "o"
  ·fail "g";refine ⟨?_,rfl⟩;simp
 ·intro ht
  have ht':i<=0∨(row.length:Int)<=i:=by
   simp only [List.any_cons,List.any_nil,id,Bool.or_false,Bool.or_eq_true,decide_eq_true_eq] at ht
   rw [hlen];exact ht
  rw [if_pos ht'] at h
  fail "g"
  refine (?_:Q _ σ)
  have e:decide ((0:Int)<((text.map CV.int).length:Int))=decide (0<row.length):=by
   rw [List.length_map,hlen,Bool.eq_iff_iff];simp
  rw [e];exact h
 intro hf
 have hf':¬ (i<=0∨(row.length:Int)<=i):=by
  simp only [List.any_cons,List.any_nil,id,Bool.or_false,Bool.or_eq_false_iff,decide_eq_false_iff_not] at hf
  rw [hlen];exact o345 _ _ hf
 rw [if_neg hf'] at h
 have h0:0<i:=by exact o346 _ _ hf'
 have h1:i<row.length:=by exact o347 _ _ hf'
 clear hf hf'
 dsimp only at h
 fail "g"
 refine MethTo.of (zw V.inst V.attrs V.ms.1 V.ms.2.1) (zu V.ms.2.2) ?_
 fail "g"
 refine OW.le (V.sort (i-1) _ ?_) (o348 _)
 fail "g"
 refine MethTo.of (zw V.inst V.attrs V.ms.1 V.ms.2.1) (zu V.ms.2.2) ?_
 fail "g"
 refine OW.le (V.sort i _ ?_) (o348 _)
 fail "g"
 refine ⟨by fail "t",(zt _ rfl rfl (?_))⟩
 fail "g"
 generalize hb:ze row (i-1)=before at *
 generalize ha:ze row i=after at *
 fail "n";with_reducible refine' y4 (zJ (bs:=[before=="CR",after=="LF"]) ?c1 ⟨rfl,rfl⟩) ?_ ?_
 case c1=>refine ⟨?_,fun _=>⟨?_,fun _=>trivial⟩⟩ <;> fail "o"
 ·intro ht
  simp only [List.all_cons,List.all_nil,id,Bool.and_true] at ht
  rw [if_pos ht] at h
  fail "g"
  exact h
 intro hf1
 simp only [List.all_cons,List.all_nil,id,Bool.and_true] at hf1
 rw [if_neg (by rw [hf1];decide)] at h
 fail "g"
 fail "n";with_reducible refine' y4 (vz (bs:=[ENDS.contains before,ENDS.contains after]) ?d1 ⟨rfl,rfl⟩) ?_ ?_
 case d1=>refine ⟨?_,fun _=>⟨?_,fun _=>trivial⟩⟩ <;> fail "o"
 ·intro ht
  simp only [List.any_cons,List.any_nil,id,Bool.or_false] at ht
  rw [if_pos ht] at h
  fail "g"
  exact h
 intro hf2
 simp only [List.any_cons,List.any_nil,id,Bool.or_false] at hf2
 rw [if_neg (by rw [hf2];decide)] at h
 fail "g"
 fail "n";with_reducible refine' y4 (zJ (bs:=[before=="ZWJ",pic i.toNat]) ?e1 ⟨rfl,rfl⟩) ?_ ?_
 case e1 =>
  refine ⟨?_,fun _=>⟨?_,fun _=>trivial⟩⟩
  ·fail "o"
  ·refine x5 (W.data) ?_;intro keep N M G D hN hG
   refine x0 (id D) ?_;intro ddx df mp LL DA _
   refine zL (DA.attrs) ?_;intro pr wd hda
   fail "g"
   refine ⟨v,C,dx,fs,_,rfl,V.inst,V.attrs,V.okd,V.d,?_⟩
   refine MethTo.of (zw DA.inst hda (f:=287) (by kernel_rfl) rfl) (zu rfl) ?_
   fail "g"
   refine ⟨v,C,dx,fs,_,rfl,V.inst,V.attrs,V.oktx,V.tx,?_⟩
   fail "g"
   have hi:text[i.toNat]?=some (text[i.toNat]'(o349 _ _ _ h0 h1 hlen)):=List.getElem?_eq_getElem (o349 _ _ _ h0 h1 hlen)
   fail "n";refine zD (fun _ _=>rfl) W.tx (o350 _ h0) (cv:=.int (text[i.toNat]'(o349 _ _ _ h0 h1 hlen))) (by rw [List.getElem?_map,hi];rfl) ?_
   fail "g"
   refine zh (hG _ _ hi) ?_;intro g1 g2 g3
   fail "n";refine (vN D hN g1 ?_).ow
   rw [g3]
   fail "o"
 ·intro ht
  simp only [List.all_cons,List.all_nil,id,Bool.and_true] at ht
  rw [if_pos ht] at h
  fail "g"
  exact h
 intro hf3
 simp only [List.all_cons,List.all_nil,id,Bool.and_true] at hf3
 rw [if_neg (by rw [hf3];decide)] at h
 fail "g"
 fail "n";with_reducible refine' y4 (zJ (bs:=[before=="WSegSpace",after=="WSegSpace"]) ?f1 ⟨rfl,rfl⟩) ?_ ?_
 case f1=>refine ⟨?_,fun _=>⟨?_,fun _=>trivial⟩⟩ <;> fail "o"
 ·intro ht
  simp only [List.all_cons,List.all_nil,id,Bool.and_true] at ht
  rw [if_pos ht] at h
  fail "g"
  exact h
 intro hf4
 simp only [List.all_cons,List.all_nil,id,Bool.and_true] at hf4
 rw [if_neg (by rw [hf4];decide)] at h
 fail "g"
 fail "n";with_reducible refine' y4 (v:=SKP.contains after) ?g1 ?_ ?_
 case g1=>fail "o"
 ·intro ht
  rw [if_pos ht] at h
  fail "g"
  exact h
 intro hf5
 rw [if_neg (by rw [hf5];decide)] at h
 fail "g"
 have e1:((i.toNat:Nat):Int)=i:=by exact o351 _ h0
 rw [← e1]
 fail "n";refine (rh (i:=i.toNat) VV hlen (o352 _ h0) (o353 _ _ _ e1 h1 hlen) ?_).ow
 fail "g"
 exact h
end

section
variable {y:CW} {n:Nat} {σ:Sto} {Q:CV->Sto->Prop}
theorem WordCtx.same {σ':Sto} {tx d:Addr} {text:List Int} {row:List Str} {pic:Nat->Bool} (W:WordCtx σ tx d text row pic) (s:Same [] σ σ'):WordCtx σ' tx d text row pic :=
 ⟨s _ _ (by simp) W.tx,x0 (W.data) fun keep N M G D r=>(nH keep N M G (D.same s) r),W.len,W.bound⟩
theorem ji {tx d v:Addr} {text:List Int} {row:List Str} {pic:Nat->Bool} (W:WordCtx σ tx d text row pic) (P:yY σ v tx d):su y (n+6) σ v tx d text row:=by
 refine za (id P) ?_;intro dx hv hdx
 exact ⟨353,dx,_,336,343,329,350,hv,hdx,by kernel_rfl,by kernel_rfl,rfl,rfl,⟨by kernel_rfl,rfl,rfl⟩,⟨by kernel_rfl,rfl,rfl⟩,⟨by kernel_rfl,rfl,rfl⟩,⟨by kernel_rfl,rfl,rfl⟩,
  fun i Q hi h=>OW.le (mj (n:=0) W P hi h).ow (o354 _),fun i Q hi h=>OW.le (lw (n:=0) W P h).ow (o354 _),fun i Q h=>OW.le (ut (n:=0) W P h).ow (o355 _),
  fun i Q hi h=>OW.le (lx (n:=0) (i:=i) W P (o356 _) (o357 _ _ hi) h).ow (o358 _)⟩
theorem rj {x dx tx d:Addr} (hx:σ x=some (.inst 353 dx)) (hd:σ dx=some (.attrs [])) (h:Q .none (upd (upd σ dx (.attrs [("text",.ref tx)])) dx (.attrs [("text",.ref tx),("data",.ref d)]))):OCd y.c (n+1) [.ref x,.ref tx,.ref d] (.ref 322) Q σ:=by
 refine wfD (fa:=322) rfl (by kernel_rfl) _ (zq (bd3 fun v w x=>rfl)) (by kernel_rfl) fun L=>?_
 have hne:x≠dx:=by rintro rfl;rw [hx] at hd;cases hd
 fail "g"
 refine ⟨x,353,dx,_,rfl,hx,hd,by kernel_rfl,by fail "t",?_⟩
 fail "g"
 refine ⟨x,353,dx,_,rfl,by fail "l",by fail "l",by kernel_rfl,by fail "t",?_⟩
 fail "g"
 exact h
theorem rn {tx d:Addr} (h:∀ x σ',yY σ' x tx d->Same [] σ σ'->Q (.ref x) σ'):OW y.c (n+2) VR [.ref tx,.ref d] (zQ (.ref 353)) Q σ :=
 pQ (fI:=322) (by kernel_rfl) (by kernel_rfl) (by kernel_rfl) fun x dx nx nd hne=>rj (zb _ _ _) (zn (Ne.symm hne) (zb _ _ _))
  ⟨rfl,h x _ (z0 dx (zn hne (zn hne (zb _ _ _))) (zb _ _ _)) fun a co _ e=>zn (zf e nd) (zn (zf e nd) (zn (zf e nx) (zn (zf e nd) e)))⟩
theorem wy {tx d:Addr} {text:List Int} {row:List Str} {pic:Nat->Bool} {i:Int} (W:WordCtx σ tx d text row pic) (h:∀ σ',Same [] σ σ'->Q (.bool (rule row pic i)) σ'):OCd y.c (n+9) [.ref tx,.int i,.ref d] (.ref 432) Q σ:=by
 refine wfD (fa:=432) rfl (by kernel_rfl) _ (zq (bd3 fun v w x=>rfl)) (by kernel_rfl) fun L=>?_
 fail "g"
 refine rn fun x σ' P sm=>?_
 fail "g"
 fail "n";refine (sv (m:=n+2) (ji (W.same sm) P) (W.same sm) ?_).ow
 exact h σ' sm
noncomputable def pbegin (row:List Str) (pic:Nat->Bool):Nat->Nat
 | 0=>0
 | i+1=>if rule row pic (i+1:Nat) then i+1 else pbegin row pic i
theorem uu {tx d:Addr} {text:List Int} {row:List Str} {pic:Nat->Bool} {i:Nat} (W:WordCtx σ tx d text row pic) (h:∀ σ',Same [] σ σ'->Q (.int (pbegin row pic i)) σ'):OCd y.c (n+10) [.ref tx,.int i,.ref d] (.ref 449) Q σ:=by
 refine wfD (fa:=449) rfl (by kernel_rfl) _ (zq (bd3 fun v w x=>rfl)) (by kernel_rfl) fun L=>?_
 fail "n";with_reducible refine' xc (fun m ρ σ'=>pbegin row pic m=pbegin row pic i/\ρ=([("text",.ref tx),("at",.int m),("data",.ref d)]:Loc)/\Same [] σ σ') i ?w1 ?_
 case w1=>exact (zN _ ((by exact ⟨rfl,rfl,rfl,trivial⟩)) rfl rfl Same.refl)
 intro T hT;intro m ρ σ' z1;refine zh (z1) ?_;intro h1 q350 sm;obtain rfl:=q350
 fail "g"
 cases m with
 | zero =>
  fail "g"
  have:=h σ' sm
  rw [← h1] at this;exact this
 | succ m =>
  refine Br.pos (by simp) ?_
  fail "g"
  fail "n";refine (wy (n:=n) (i:=((m+1:Nat):Int)) (W.same sm) fun σ2 sm2=>?_).ow
  fail "g"
  cases hr:rule row pic ((m+1:Nat):Int) with
  | true =>
   fail "g"
   have e:pbegin row pic (m+1)=m+1:=by unfold pbegin;rw [if_pos hr]
   have:=h σ2 (sm.trans sm2)
   rw [← h1,e] at this;exact this
  | false =>
   fail "gx"
   fail "g"
   refine (we m _ (o332 _) (?_) (?_) rfl (sm.trans sm2))
   ·exact ⟨rfl,(by show some (CV.int (((m+1:Nat):Int)-1))=some (CV.int m);congr 2;exact o36 _),rfl,trivial⟩
   ·rw [← h1];show _=if rule row pic ((m+1:Nat):Int)=true then _ else _;rw [if_neg (by rw [hr];decide)]
end

section
variable {y:CW} {n:Nat} {σ:Sto} {Q:CV->Sto->Prop}
noncomputable def pendl (row:List Str) (pic:Nat->Bool):Nat->Nat->Nat
 | 0,j=>j
 | f+1,j=>if j<row.length/\rule row pic (j:Nat)=false then pendl row pic f (j+1) else j
noncomputable def pend (row:List Str) (pic:Nat->Bool) (i:Nat):Nat:=if row.length<=i then row.length else pendl row pic (row.length+1) (i+1)
theorem qO {tx d:Addr} {text:List Int} {row:List Str} {pic:Nat->Bool} {i:Nat} (W:WordCtx σ tx d text row pic) (h:∀ σ',Same [] σ σ'->Q (.int (pend row pic i)) σ'):OCd y.c (n+10) [.ref tx,.int i,.ref d] (.ref 456) Q σ:=by
 refine wfD (fa:=456) rfl (by kernel_rfl) _ (zq (bd3 fun v w x=>rfl)) (by kernel_rfl) fun L=>?_
 have hlen:=W.len
 unfold pend at h
 fail "if"
 fail "g"
 fail "n";refine xR W.tx ?_
 fail "g"
 by_cases c0:row.length<=i
 ·refine Br.pos (by simp;exact o359 _ _ _ hlen c0) ?_
  rw [if_pos c0] at h
  fail "g"
  fail "n";refine xR W.tx ?_
  fail "g"
  have:=h σ Same.refl
  rw [hlen] at this
  refine (?_:Q _ σ)
  rw [List.length_map];exact this
 ·refine Br.nay (by simp;exact o360 _ _ _ hlen c0) ?_
  rw [if_neg c0] at h
  fail "gx"
  fail "g"
  fail "n";with_reducible refine' xc (fun m ρ σ'=>∃ j:Nat,pendl row pic m j=pendl row pic (row.length+1) (i+1)/\row.length<j+m/\ρ=([("text",.ref tx),("at",.int j),("data",.ref d)]:Loc)/\Same [] σ σ') (row.length+1) ?w1 ?_
  case w1 =>
   refine (z0 ([("text",.ref tx),("at",.int ((i+1:Nat):Int)),("data",.ref d)]) (?_) (zN (i+1) rfl (o265 _ _) rfl Same.refl))
   exact ⟨rfl,rfl,rfl,trivial⟩
  intro T hT;intro m ρ σ' z1;refine wc (z1) ?_;intro j h1 h2 q351 sm;obtain rfl:=q351
  fail "g"
  fail "n";refine xR (W.same sm).tx ?_
  fail "g"
  have stop:∀ {σ2},Same [] σ σ2->(row.length<=j∨rule row pic (j:Nat)=true)->Q (.int j) σ2:=fun {σ2} s hc=>by
   have:=h σ2 s
   rw [← h1] at this
   have e:pendl row pic m j=j:=by
    cases m with
    | zero=>rfl
    | succ m =>
     show (if j<row.length/\rule row pic (j:Nat)=false then _ else _)=_
     rw [if_neg (fun z=>hc.elim (fun hc=>by exact o361 _ _ _ z hc) (fun hc=>by rw [hc] at z;exact absurd z.2 (by decide)))]
   rw [e] at this;exact this
  by_cases c1:j<row.length
  ·refine Br.pos (by simp;exact o29 _ _ _ c1 hlen) ?_
   fail "g"
   fail "n";refine (wy (n:=n) (i:=((j:Nat):Int)) (W.same sm) fun σ2 sm2=>?_).ow
   fail "g"
   cases hr:rule row pic ((j:Nat):Int) with
   | true =>
    fail "g"
    exact stop (sm.trans sm2) (.inr hr)
   | false =>
    cases m with
    | zero=>exact (o331 _ _ h2 c1).elim
    | succ m =>
     fail "g"
     refine (zj m ([("text",.ref tx),("at",.int ((j+1:Nat):Int)),("data",.ref d)]) (o332 _) (?_) (zN (j+1) (?_) (o250 _ _ _ h2) rfl (sm.trans sm2)))
     ·exact ⟨rfl,rfl,rfl,trivial⟩
     ·rw [← h1];show _=if j<row.length/\rule row pic (j:Nat)=false then _ else _;rw [if_pos ⟨c1,hr⟩]
  ·refine Br.nay (by simp;exact o333 _ _ _ hlen c1) ?_
   fail "g"
   exact stop sm (.inl (o89 _ _ c1))
noncomputable def xH (row:List Str) (i:Nat):Nat:=if row.length<=i/\0<row.length then row.length-1 else i
theorem mm {tx d:Addr} {text:List Int} {row:List Str} {pic:Nat->Bool} {i:Nat} (W:WordCtx σ tx d text row pic) (h:∀ σ',Same [] σ σ'->Q (.tup [.int (pbegin row pic (xH row i)),.int (pend row pic (xH row i))]) σ'):OCd y.c (n+11) [.ref tx,.int i,.ref d] (.ref 463) Q σ:=by
 refine wfD (fa:=463) rfl (by kernel_rfl) _ (zq (bd3 fun v w x=>rfl)) (by kernel_rfl) fun L=>?_
 have hlen:=W.len
 fail "n";refine j4 (fun ρ' σ'=>ρ'=([("text",.ref tx),("at",.int (xH row i)),("data",.ref d)]:Loc)/\σ'=σ) ?_ ?_
 ·with_reducible refine' pT (zJ (bs:=[decide (row.length<=i),decide (0<row.length)]) ?a1 ⟨rfl,rfl⟩) ?_ ?_
  case a1 =>
   refine ⟨?_,fun _=>⟨?_,fun _=>trivial⟩⟩
   ·fail "g"
    fail "n";refine xR W.tx ?_
    fail "g"
    refine ⟨?_,rfl⟩
    rw [List.length_map,← hlen,Bool.eq_iff_iff];simp
   ·fail "g"
    fail "n";refine xR W.tx ?_
    fail "g"
    refine ⟨?_,rfl⟩
    rw [List.length_map,← hlen,Bool.eq_iff_iff];simp
  ·intro ht
   have ht':row.length<=i/\0<row.length:=by simpa using ht
   fail "g"
   fail "n";refine xR W.tx ?_
   refine iC (z:=((row.length-1:Nat):Int)) (by rw [List.length_map,← hlen];exact o362 _ _ ht') ?_
   fail "g"
   have e:xH row i=row.length-1:=by unfold xH;rw [if_pos ht']
   rw [e]
   refine (zt _ (?_) rfl rfl)
   exact ⟨rfl,rfl,rfl,trivial⟩
  ·intro hf
   have hf':¬ (row.length<=i/\0<row.length):=by
    intro z;simp [z.1,z.2] at hf
   fail "g"
   have e:xH row i=i:=by unfold xH;rw [if_neg hf']
   rw [e]
   refine (zt _ (?_) rfl rfl)
   exact ⟨rfl,rfl,rfl,trivial⟩
 ·intro ρ' σ' z2;obtain ⟨rfl,rfl⟩:=z2
  fail "g"
  fail "n";refine (uu (n:=n) (i:=xH row i) W fun σ2 sm2=>?_).ow
  fail "g"
  fail "n";refine (qO (n:=n) (i:=xH row i) (W.same sm2) fun σ3 sm3=>?_).ow
  fail "g"
  refine ⟨by fail "t",?_⟩
  exact h σ3 (sm2.trans sm3)
end

section
variable {y:CW} {n:Nat} {σ:Sto} {Q:CV->Sto->Prop}
theorem xy {α:Type} (f:Nat->α) {k i:Nat} (h:i<k):((List.range k).map f)[((i:Nat):Int).toNat]?=some (f i):=by
 rw [Int.toNat_natCast,List.getElem?_map,List.getElem?_range h];rfl
noncomputable def xz (row:List Str) (k:Nat):List CV:=(List.range k).map fun i=>.int (lft row i)
noncomputable def tg (row:List Str) (k:Nat):List CV:=(List.range k).map fun (i:Nat)=>.int (flg row (fuel row) i)
noncomputable def th (row:List Str) (k:Nat):List CV:=(List.range k).map fun i=>.int (rgt row (fuel row) i)
noncomputable def wz (σ:Sto) (v tx d:Addr) (row:List Str):Prop:=∃ dx sa la ra ga,σ v=some (.inst 400 dx)/\σ dx=some (.attrs [("text",.ref tx),("data",.ref d),("sorts",.ref sa),("lefts",.ref la),("rows",.ref ra),("rights",.ref ga)]) /\
 σ sa=some (.list (row.map .str))/\σ la=some (.list (xz row (row.length+1)))/\σ ra=some (.list (tg row row.length))/\σ ga=some (.list (th row (row.length+1)))
theorem jj {tx d v:Addr} {row:List Str} {i:Nat} (P:wz σ v tx d row) (hi:i<=row.length) (h:Q (.int (lft row i)) σ):OCd y.c (n+1) [.ref v,.int i] (.ref 383) Q σ:=by
 refine wfD (fa:=383) rfl (by kernel_rfl) _ (zq (bd2 fun v w=>rfl)) (by kernel_rfl) fun L=>?_
 refine wR (P) ?_;intro dx sa la ra ga hv hdx hsa hla hra hga
 fail "g"
 refine AttrTo.of (x:=v) (C:=400) (dx:=dx) rfl (hv) (hdx) (by kernel_rfl) (by exact rfl) ?_
 fail "g"
 fail "n";exact zD (fun _ _=>rfl) hla (o162 _) (cv:=.int (lft row i)) (xy (fun i=>CV.int (lft row i)) (o363 _ _ hi)) h
theorem ly {tx d v:Addr} {row:List Str} {i:Nat} (P:wz σ v tx d row) (hi:i<=row.length) (h:Q (.int (rgt row (fuel row) i)) σ):OCd y.c (n+1) [.ref v,.int i] (.ref 390) Q σ:=by
 refine wfD (fa:=390) rfl (by kernel_rfl) _ (zq (bd2 fun v w=>rfl)) (by kernel_rfl) fun L=>?_
 refine wR (P) ?_;intro dx sa la ra ga hv hdx hsa hla hra hga
 fail "g"
 refine AttrTo.of (x:=v) (C:=400) (dx:=dx) rfl (hv) (hdx) (by kernel_rfl) (by exact rfl) ?_
 fail "g"
 fail "n";exact zD (fun _ _=>rfl) hga (o162 _) (cv:=.int (rgt row (fuel row) i)) (xy (fun i=>CV.int (rgt row (fuel row) i)) (o363 _ _ hi)) h
theorem lz {tx d v:Addr} {row:List Str} {i:Nat} (P:wz σ v tx d row) (hi:i<row.length) (h:Q (.int (flg row (fuel row) i)) σ):OCd y.c (n+1) [.ref v,.int i] (.ref 397) Q σ:=by
 refine wfD (fa:=397) rfl (by kernel_rfl) _ (zq (bd2 fun v w=>rfl)) (by kernel_rfl) fun L=>?_
 refine wR (P) ?_;intro dx sa la ra ga hv hdx hsa hla hra hga
 fail "g"
 refine AttrTo.of (x:=v) (C:=400) (dx:=dx) rfl (hv) (hdx) (by kernel_rfl) (by exact rfl) ?_
 fail "g"
 fail "n";exact zD (fun _ _=>rfl) hra (o162 _) (cv:=.int (flg row (fuel row) i)) (xy (fun (i:Nat)=>CV.int (flg row (fuel row) i)) (o238 _ _ hi)) h
theorem jk {tx d v:Addr} {row:List Str} {i:Int} (P:wz σ v tx d row) (h:Q (.str (ze row i)) σ):OCd y.c (n+1) [.ref v,.int i] (.ref 376) Q σ:=by
 refine wfD (fa:=376) rfl (by kernel_rfl) _ (zq (bd2 fun v w=>rfl)) (by kernel_rfl) fun L=>?_
 refine wR (P) ?_;intro dx sa la ra ga hv hdx hsa hla hra hga
 unfold ze at h
 fail "g"
 refine (z0 _ rfl (?_))
 by_cases h0:0<=i
 ·first | refine Br.yes h0 ?_ | refine Br.eqT h0 ?_ | refine Br.zT h0 ?_ | refine Br.pos (by simpa using h0) ?_
  fail "g"
  refine AttrTo.of (x:=v) (C:=400) (dx:=dx) rfl (hv) (hdx) (by kernel_rfl) (by exact rfl) ?_
  fail "g"
  fail "n";refine xR hsa ?_
  fail "g"
  refine (z0 _ rfl (?_))
  by_cases h1:i<row.length
  ·first | refine Br.yes h1 ?_ | refine Br.eqT h1 ?_ | refine Br.zT h1 ?_ | refine Br.pos (by simpa using h1) ?_
   rw [if_pos ⟨h0,h1⟩] at h
   fail "g"
   refine AttrTo.of (x:=v) (C:=400) (dx:=dx) rfl (hv) (hdx) (by kernel_rfl) (by exact rfl) ?_
   fail "g"
   fail "n";refine zD (fun _ _=>rfl) hsa h0 (cv:=.str (row.getD i.toNat "")) ?_ h
   have:i.toNat<row.length:=by exact o312 _ _ h0 h1
   simp [this]
  ·first | refine Br.no h1 ?_ | refine Br.eqF h1 ?_ | refine Br.zF h1 ?_ | refine Br.nay (by simpa using h1) ?_
   rw [if_neg (fun z=>h1 z.2)] at h
   fail "g"
   exact h
 ·first | refine Br.no h0 ?_ | refine Br.eqF h0 ?_ | refine Br.zF h0 ?_ | refine Br.nay (by simpa using h0) ?_
  rw [if_neg (fun z=>h0 z.1)] at h
  fail "g"
  exact h
theorem jl {tx d v:Addr} {text:List Int} {row:List Str} {pic:Nat->Bool} (W:WordCtx σ tx d text row pic) (P:wz σ v tx d row):su y (n+1) σ v tx d text row:=by
 refine ka (id P) ?_;intro dx sa la ra ga hv hdx _
 have hlen:=W.len
 exact ⟨400,dx,_,383,390,376,397,hv,hdx,by kernel_rfl,by kernel_rfl,rfl,rfl,⟨by kernel_rfl,rfl,rfl⟩,⟨by kernel_rfl,rfl,rfl⟩,⟨by kernel_rfl,rfl,rfl⟩,⟨by kernel_rfl,rfl,rfl⟩,
  fun i Q hi h=>(jj P (o364 _ _ _ hi hlen) h).ow,fun i Q hi h=>(ly P (o364 _ _ _ hi hlen) h).ow,fun i Q h=>(jk P h).ow,fun i Q hi h=>(lz P (o27 _ _ _ hi hlen) h).ow⟩
end

section
variable {y:CW} {n:Nat} {σ:Sto} {Q:CV->Sto->Prop}
theorem zx {o:Option NameKind} (h:o=some .cell):o≠some .local:=by rw [h];decide
noncomputable def qP (G:Str->Int->CV):CV->CV | .int k=>G "wb" k | _=>.none
theorem oF {text:List Int} {row:List Str} {G:Str->Int->CV} (hl:row.length=text.length) (hG:∀ (i:Nat) k,text[i]?=some k->G "wb" k=.str (ze row i)):((text.map CV.int).filter (fun _=>true)).map (qP G)=row.map .str:=by
 refine List.ext_getElem? fun i=>?_
 rw [List.filter_eq_self.mpr (by simp)]
 simp only [List.map_map,List.getElem?_map]
 cases e:text[i]? with
 | none =>
  rw [List.getElem?_eq_none_iff] at e
  rw [List.getElem?_eq_none_iff.mpr (o90 _ _ _ hl e)];rfl
 | some k =>
  have hi:=(List.getElem?_eq_some_iff.mp e).1
  have h1:=hG i k e
  have h2:row[i]?=some (row[i]'(o27 _ _ _ hi hl)):=List.getElem?_eq_getElem (o27 _ _ _ hi hl)
  rw [h2]
  simp only [Option.map_some,Function.comp,qP,h1,Option.some.injEq,CV.str.injEq]
  unfold ze
  rw [if_pos (o365 _ _ _ hi hl)]
  simp [h2]
noncomputable def ya (row:List Str) (k:Nat):List CV:=(List.range (row.length+1)).map fun i=>if k<=i then .int (rgt row (fuel row) i) else .int row.length
theorem lA (row:List Str) (f:Nat):rgt row f row.length=row.length:=by
 cases f with
 | zero=>rfl
 | succ f=>show (if row.length<row.length/\_ then _ else _)=_;rw [if_neg (fun z=>Nat.lt_irrefl _ z.1)]
theorem tj (row:List Str):ya row row.length=List.replicate (row.length+1) (.int row.length):=by
 refine List.ext_getElem? fun i=>?_
 unfold ya
 by_cases h:i<row.length+1
 ·rw [List.getElem?_map,List.getElem?_range h,List.getElem?_replicate,if_pos h]
  simp only [Option.map_some]
  split
  ·have:i=row.length:=by exact o366 _ _ h (by assumption)
   subst this;rw [lA]
  ·rfl
 ·rw [List.getElem?_eq_none_iff.mpr (by simp;exact o195 _ _ h),List.getElem?_eq_none_iff.mpr (by simp;exact o195 _ _ h)]
theorem sx (row:List Str):∀ (f at_:Nat),row.length<=at_+f->rgt row (f+1) at_=rgt row f at_
 | 0,at_,h=>by
  show (if at_<row.length/\skp row at_=true then _ else _)=_
  rw [if_neg (fun z=>by exact o367 _ _ _ z h)];rfl
 | f+1,at_,h=>by
  show (if at_<row.length/\skp row at_=true then rgt row (f+1) (at_+1) else at_)=(if at_<row.length/\skp row at_=true then rgt row f (at_+1) else at_)
  rw [sx row f (at_+1) (o167 _ _ _ h)]
theorem oG (row:List Str) {at_:Nat} (h:at_<row.length):rgt row (fuel row) at_=if skp row at_=true then rgt row (fuel row) (at_+1) else at_:=by
 show rgt row (row.length+1+1) at_=if skp row at_=true then rgt row (row.length+1+1) (at_+1) else at_
 rw [sx row (row.length+1) (at_+1) (o368 _ _)]
 show (if at_<row.length/\skp row at_=true then rgt row (row.length+1) (at_+1) else at_)=_
 by_cases q:skp row at_=true
 ·rw [if_pos ⟨h,q⟩,if_pos q]
 ·rw [if_neg (fun z=>q z.2),if_neg q]
theorem rp (row:List Str) {k i:Nat} (h:k<=i) (hi:i<=row.length):(ya row k)[((i:Nat):Int).toNat]?=some (.int (rgt row (fuel row) i)):=by
 unfold ya
 rw [Int.toNat_natCast,List.getElem?_map,List.getElem?_range (o363 _ _ hi)]
 simp only [Option.map_some]
 rw [if_pos h]
theorem tl (row:List Str) {m:Nat} (h:m<row.length):(ya row (m+1)).set m (.int (rgt row (fuel row) m))=ya row m:=by
 refine List.ext_getElem? fun i=>?_
 unfold ya
 rw [List.getElem?_set]
 by_cases hi:i<row.length+1
 ·rw [List.getElem?_map,List.getElem?_map,List.getElem?_range hi]
  simp only [Option.map_some,List.length_map,List.length_range]
  by_cases q:m=i
  ·subst q;rw [if_pos rfl,if_pos hi,if_pos (Nat.le_refl _)]
  ·rw [if_neg q]
   by_cases q2:m+1<=i
   ·rw [if_pos q2,if_pos (o174 _ _ q2)]
   ·rw [if_neg q2,if_neg (o369 _ _ q2 q)]
 ·rw [if_neg (o370 _ _ _ h hi),List.getElem?_eq_none_iff.mpr (by simp;exact o195 _ _ hi),List.getElem?_eq_none_iff.mpr (by simp;exact o195 _ _ hi)]
theorem uv (row:List Str):ya row 0=th row (row.length+1):=by unfold ya th;simp
theorem jm {σ0:Sto} {x dx tx d:Addr} {text:List Int} {row:List Str} {pic:Nat->Bool} (W:WordCtx σ0 tx d text row pic) (s0:Same [] σ0 σ) (nd0:σ0 dx=none) (hx:σ x=some (.inst 400 dx)) (hd:σ dx=some (.attrs [])) (h:∀ σ',wz σ' x tx d row->Same [] σ0 σ'->Q .none σ'):OCd y.c (n+5) [.ref x,.ref tx,.ref d] (.ref 369) Q σ:=by
 refine mF (fa:=369) rfl (by kernel_rfl) _ (bd3 (fun v w x=>rfl)) (by kernel_rfl) (fun L=>by kernel_rfl) fun L=>?_
 have hne:x≠dx:=by rintro rfl;rw [hx] at hd;cases hd
 have hlen:=W.len
 have hbd:=W.bound
 fail "g"
 refine ⟨x,400,dx,_,rfl,hx,hd,by kernel_rfl,by fail "t",?_⟩
 fail "g"
 refine ⟨x,400,dx,_,rfl,by fail "l",by fail "l",by kernel_rfl,by fail "t",?_⟩
 fail "g"
 generalize hs1:upd (upd σ dx _) dx _=σ1
 have hx1:σ1 x=some (.inst 400 dx):=by rw [← hs1];fail "l"
 have hd1:σ1 dx=some (.attrs [("text",.ref tx),("data",.ref d)]):=by rw [← hs1];exact zb _ _ _
 have sm1:Same [] σ0 σ1:=by rw [← hs1];fail "sm"
 clear hs1
 have W1:=W.same sm1
 refine x5 (W1.data) ?_;intro keep N M G D hN hG
 refine x0 (id D) ?_;intro ddx df mp LL DA _
 refine zL (DA.attrs) ?_;intro pr wd hda
 with_reducible refine' ye (fv:=[("data",.ref d)]) ?ok ?hs ?_
 case ok =>
  refine ⟨rfl,of_decide_eq_true (by kernel_rfl),rfl,?_,?_,?_⟩
  ·decide +kernel
  ·intro e he;rw [List.mem_singleton] at he;subst he;exact ⟨rfl,zx rfl,zx rfl,rfl⟩
  ·intro e he;rw [List.mem_singleton] at he;subst he;rfl
 case hs=>exact fun _=>rfl
 refine wm ?_
 fail "g"
 refine (zj _ _ (zK W1.tx) (by simp;exact o371 _ hbd) (zV (fun _=>true) (qP G) (?_) (fun sa nsa=>?_)))
 ·intro v hv C
  refine za (List.mem_map.mp hv) ?_;intro k hk q354;obtain rfl:=q354
  obtain ⟨i,hi⟩:=List.getElem?_of_mem hk
  refine zh (hG i k hi) ?_;intro g1 g2 g3
  fail "g"
  refine ⟨rfl,⟨rfl,trivial⟩,vt ⟨rfl,rfl,fun _=>?_⟩⟩
  fail "g"
  refine MethTo.of (zw DA.inst hda (f:=287) (by kernel_rfl) rfl) (zu rfl) ?_
  fail "g"
  exact (vN D hN g1 ⟨rfl,rfl⟩).ow
 rw [oF hlen fun i k hi=>(hG i k hi).2.1] at *
 fail "g"
 refine ⟨x,400,dx,_,rfl,by fail "l",by fail "l",by kernel_rfl,by fail "t",?_⟩
 fail "g"
 refine ⟨by fail "t",fun la nla=>?_⟩
 fail "g"
 refine ⟨x,400,dx,_,rfl,by fail "l",by fail "l",by kernel_rfl,by fail "t",?_⟩
 fail "g"
 refine ⟨by fail "t",fun ra nra=>?_⟩
 fail "g"
 refine ⟨x,400,dx,_,rfl,by fail "l",by fail "l",by kernel_rfl,by fail "t",?_⟩
 have q1:sa≠dx:=(zf hd1 nsa).symm
 have q2:la≠dx:=(zi nla).2
 have q3:ra≠dx:=(zi nra).2
 have q4:la≠sa:=(zi (zi nla).1).2
 have q5:ra≠la:=(zi (zi nra).1).2
 have q6:ra≠sa:=(zi (zi (zi (zi nra).1).1).1).2
 generalize hs2:upd (upd (upd _ dx _) ra _) dx _=σ2
 have hx2:σ2 x=some (.inst 400 dx):=by rw [← hs2];fail "l"
 have hd2:σ2 dx=some (.attrs [("text",.ref tx),("data",.ref d),("sorts",.ref sa),("lefts",.ref la),("rows",.ref ra)]):=by rw [← hs2];exact zb _ _ _
 have hsa2:σ2 sa=some (.list (row.map .str)):=by rw [← hs2];fail "l"
 have hla2:σ2 la=some (.list [.int (-1)]):=by rw [← hs2];fail "l"
 have hra2:σ2 ra=some (.list []):=by rw [← hs2];fail "l"
 have sm2:Same [] σ0 σ2:=by rw [← hs2];fail "sm"
 clear hs2
 fail "g"
 fail "n";with_reducible refine' yI ?_ ?hs1
 case hs1=>exact fun _=>rfl
 with_reducible refine' yR ?r1 ?r2 ?r3 ?r4 ?_
 case r1=>kernel_rfl
 case r2=>kernel_rfl
 case r3=>exact rfl
 case r4=>exact rfl
 fail "g"
 fail "n";refine xR (W.same sm2).tx ?_
 fail "g"
 refine ⟨_,rfl,by simp only [List.length_map];exact o372 _,by simp only [List.length_map];exact o373 _ hbd,fun xs ρ' σ'=>∃ k:Nat,k<=row.length/\xs=rng k 1 (row.length-k)/\ρ'=([("self",.ref x),("text",.ref tx)]:Loc)/\σ' la=some (.list (xz row (k+1)))/\σ' ra=some (.list (tg row k))/\(∀ b co,b≠la->b≠ra->σ2 b=some co->σ' b=some co),(z0 ([("self",.ref x),("text",.ref tx)]) (?_) (tI 0 (o374 _) (?_) rfl (?_) hra2 (fun b co _ _ e=>e))),?_⟩
 ·exact ⟨rfl,rfl,trivial⟩
 ·simp [hlen]
 ·exact hla2
 intro T hT;intro xs ρ' σ' z1;refine nB (z1) ?_;intro k hk q355 q356 hla' hra' hoth;obtain rfl:=q355;obtain rfl:=q356
 refine ⟨trivial,?_⟩
 have hx':=hoth _ _ (by rintro rfl;rw [hla2] at hx2;cases hx2) (by rintro rfl;rw [hra2] at hx2;cases hx2) hx2
 have hd':=hoth _ _ q2.symm q3.symm hd2
 have hsa':=hoth _ _ q4.symm q6.symm hsa2
 cases hm:row.length-k with
 | zero =>
  have hkk:k=row.length:=by exact o375 _ _ hm hk
  subst hkk
  simp only [rng]
  fail "g"
  have sm3:Same [] σ0 σ':=fun a co _ e=>by
   have e1:σ1 a=some co:=sm1 a co (by simp) e
   have e2:a≠la:=zf e1 (zi (zi nla).1).1
   have e3:a≠ra:=zf e1 (zi (zi (zi (zi nra).1).1).1).1
   exact hoth a co e2 e3 (sm2 a co (by simp) e)
  fail "n";refine xR (W.same sm3).tx ?_
  fail "g"
  refine ⟨by fail "t",fun g0 ng0=>?_⟩
  fail "g"
  fail "n";refine xR (zk (W.same sm3).tx ng0) ?_
  fail "g"
  fail "n";refine i6 (zb _ _ _) (by simp only [List.length_map];exact o376 _) (by simp only [List.length_map];exact o377 _ hbd) fun ga nga=>?_
  fail "g"
  refine ⟨x,400,dx,_,rfl,by fail "l",by fail "l",by kernel_rfl,by fail "t",?_⟩
  fail "g"
  have n1a:∀ {a},σ2 a=some (CO.list [])∨True->True:=fun _=>trivial
  clear n1a
  have hla'':σ' la=some (.list (xz row (row.length+1))):=hla'
  have q7:dx≠ga:=zf (zk hd' ng0) nga
  have q8:x≠ga:=zf (zk hx' ng0) nga
  have q9:sa≠ga:=zf (zk hsa' ng0) nga
  have q10:la≠ga:=zf (zk hla' ng0) nga
  have q11:ra≠ga:=zf (zk hra' ng0) nga
  generalize hs4:upd (upd _ ga _) dx _=σ4
  have hx4:σ4 x=some (.inst 400 dx):=by rw [← hs4];fail "l"
  have hd4:σ4 dx=some (.attrs [("text",.ref tx),("data",.ref d),("sorts",.ref sa),("lefts",.ref la),("rows",.ref ra),("rights",.ref ga)]):=by rw [← hs4];exact zb _ _ _
  have hsa4:σ4 sa=some (.list (row.map .str)):=by rw [← hs4];fail "l"
  have hla4:σ4 la=some (.list (xz row (row.length+1))):=by rw [← hs4];fail "l"
  have hra4:σ4 ra=some (.list (tg row row.length)):=by rw [← hs4];fail "l"
  have hga4:σ4 ga=some (.list (ya row row.length)):=by
   rw [← hs4,zn q7.symm (zb _ _ _),tj,List.length_map,hlen]
   rfl
  have sm4:Same [] σ0 σ4:=by rw [← hs4];fail "sm"
  clear hs4
  fail "n";with_reducible refine' yI ?_ ?hs2
  case hs2=>exact fun _=>rfl
  with_reducible refine' qm ?t1 ?t2 ?t3 ?t4 ?_
  case t1=>kernel_rfl
  case t2=>kernel_rfl
  case t3=>exact rfl
  case t4=>exact rfl
  fail "g"
  fail "n";refine xR (W.same sm4).tx ?_
  fail "g"
  refine ⟨_,_,rfl,by simp only [List.length_map];exact o378 _,by simp only [List.length_map];exact o379 _ hbd,by exact o380,by exact o381,fun xs ρ' σ''=>∃ k:Nat,k<=row.length/\xs=rng ((k:Int)-1) (-1) k/\ρ'=([("self",.ref x),("text",.ref tx)]:Loc)/\σ'' ga=some (.list (ya row k))/\(∀ b co,b≠ga->σ4 b=some co->σ'' b=some co),(z0 ([("self",.ref x),("text",.ref tx)]) (?_) (xL row.length (o382 _) (?_) rfl hga4 (fun b co _ e=>e))),?_⟩
  ·exact ⟨rfl,rfl,trivial⟩
  ·rw [List.length_map,hlen];congr 1;exact o383 _
  intro T hT;intro xs ρ' σ'' z2;refine rL (z2) ?_;intro k hk q357 q358 hga' hoth';obtain rfl:=q357;obtain rfl:=q358
  refine ⟨trivial,?_⟩
  have hx5:=hoth' _ _ q8 hx4
  have hd5:=hoth' _ _ q7 hd4
  have hsa5:=hoth' _ _ q9 hsa4
  cases k with
  | zero =>
   simp only [rng]
   fail "g"
   refine h σ'' (rT dx sa la ra ga hx5 hd5 hsa5 (hoth' _ _ q10 hla4) (hoth' _ _ q11 hra4) (by rw [hga',uv])) fun a co _ e=>?_
   have e1:a≠ga:=by
    have e2:=sm3 a co (by simp) e
    exact zf (zk e2 ng0) nga
   exact hoth' a co e1 (sm4 a co (by simp) e)
  | succ m =>
   simp only [rng]
   rw [show (((m+1:Nat):Int)-1)=(m:Int) by exact o36 _]
   fail "gx"
   have hsm:(row.map CV.str)[((m:Nat):Int).toNat]?=some (.str (ze row m)):=by
    unfold ze
    rw [if_pos (o384 _ _ hk)]
    have:m<row.length:=by exact o175 _ _ hk
    simp [this]
   have hrg:=oG row (at_:=m) (o175 _ _ hk)
   fail "n";with_reducible refine' vA (u:=SKP.contains (ze row m)) (v:=.int (rgt row (fuel row) m)) ?v1 ?v2 ?v3 ?_
   case v1 =>
    fail "g"
    refine AttrTo.of (x:=x) (C:=400) (dx:=dx) rfl (hx5) (hd5) (by kernel_rfl) (by exact rfl) ?_
    fail "g"
    fail "n";refine zD (fun _ _=>rfl) hsa5 (o162 _) (cv:=.str (ze row m)) hsm ?_
    fail "o"
   case v2 =>
    intro e
    rw [if_pos (show skp row m=true from e)] at hrg
    fail "g"
    refine AttrTo.of (x:=x) (C:=400) (dx:=dx) rfl (hx5) (hd5) (by kernel_rfl) (by exact rfl) ?_
    fail "n";refine zD (k:=((m+1:Nat):Int)) (fun _ _=>rfl) hga' (o385 _) (cv:=.int (rgt row (fuel row) (m+1))) (rp row (o386 _) (o387 _ _ hk)) ?_
    exact ⟨by rw [hrg],rfl⟩
   case v3 =>
    intro e
    rw [if_neg (by unfold skp;rw [e];decide)] at hrg
    fail "g"
    exact ⟨by rw [hrg],rfl⟩
   fail "g"
   refine AttrTo.of (x:=x) (C:=400) (dx:=dx) rfl (hx5) (hd5) (by kernel_rfl) (by exact rfl) ?_
   fail "g"
   refine i5 hga' (o162 _) (by simp [ya];exact o388 _ _ hk) ?_
   rw [Int.toNat_natCast,tl row (o175 _ _ hk)]
   fail "g"
   refine (z0 ([("self",.ref x),("text",.ref tx)]) (?_) (xL m (o174 _ _ hk) (?_) rfl (zb _ _ _) (fun b co h1 h2=>zn h1 (hoth' _ _ h1 h2))))
   ·exact ⟨rfl,rfl,trivial⟩
   ·congr 1
 | succ m =>
  simp only [rng]
  fail "g"
  refine AttrTo.of (x:=x) (C:=400) (dx:=dx) rfl (hx') (hd') (by kernel_rfl) (by exact rfl) ?_
  fail "g"
  fail "n";refine zD (fun _ _=>rfl) hla' (o162 _) (cv:=.int (lft row k)) (xy (fun i=>CV.int (lft row i)) (o332 _)) ?_
  fail "g"
  refine AttrTo.of (x:=x) (C:=400) (dx:=dx) rfl (hx') (hd') (by kernel_rfl) (by exact rfl) ?_
  fail "g"
  have hsk:∀ (j:Nat),j<row.length->(row.map CV.str)[((j:Nat):Int).toNat]?=some (.str (ze row j)):=fun j hj=>by
   unfold ze
   rw [if_pos (o164 _ _ hj)]
   simp [hj]
  fail "n";refine zD (fun _ _=>rfl) hsa' (o162 _) (cv:=.str (ze row k)) (hsk k (o98 _ _ _ hm)) ?_
  fail "g"
  refine ⟨by fail "t",(zt _ rfl rfl (?_))⟩
  fail "g"
  obtain ⟨b1,b2⟩:=si row k
  with_reducible refine' uU (bs:=[SKP.contains (ze row k),decide (0<=lft row k),!ENDS.contains (ze row (lft row k))]) ?u1 ?u2 ?_
  case u1=>simp
  case u2 =>
   refine ⟨?_,fun _=>⟨?_,fun hc=>⟨?_,fun _=>trivial⟩⟩⟩
   ·fail "o"
   ·fail "o"
   ·have hc':0<=lft row k:=by simpa using hc
    fail "g"
    refine AttrTo.of (x:=x) (C:=400) (dx:=dx) rfl (hx') (hd') (by kernel_rfl) (by exact rfl) ?_
    fail "g"
    fail "n";refine zD (fun _ _=>rfl) hsa' hc' (cv:=.str (ze row (lft row k))) (by have:=hsk (lft row k).toNat (o389 _ _ _ hc' b2 hk);rw [show (((lft row k).toNat:Nat):Int)=lft row k by exact o313 _ hc'] at this;exact this) ?_
    fail "o"
  have hgb:lft row (k+1)=if ([SKP.contains (ze row k),decide (0<=lft row k),!ENDS.contains (ze row (lft row k))].all id)=true then lft row k else k:=by
   show (if (skp row k&&decide (0<=lft row k)&&!endd row (lft row k))=true then lft row k else (k:Int))=_
   simp only [List.all_cons,List.all_nil,id,Bool.and_true,Bool.and_assoc,skp,endd]
  generalize ([SKP.contains (ze row k),decide (0<=lft row k),!ENDS.contains (ze row (lft row k))].all id)=gb at *
  fail "g"
  refine AttrTo.of (x:=x) (C:=400) (dx:=dx) rfl (hx') (hd') (by kernel_rfl) (by exact rfl) ?_
  refine MethTo.of (zA hla') (zP) ?_
  fail "gx"
  have lr:xz row (k+1)++[CV.int (lft row (k+1))]=xz row (k+2):=by unfold xz;rw [List.range_succ (n:=k+1),List.map_append];rfl
  fail "n";with_reducible refine' vA (u:=gb) (v:=.int (lft row (k+1))) ?v1 ?v2 ?v3 ?_
  case v1=>fail "o"
  case v2=>intro e;subst e;fail "g";exact ⟨by rw [hgb];rfl,rfl⟩
  case v3=>intro e;subst e;fail "g";exact ⟨by rw [hgb];rfl,rfl⟩
  fail "g"
  fail "n";refine y0 hla' (by simp [xz];exact o390 _ _ _ hk hlen hbd) ?_
  rw [lr]
  refine ⟨rfl,?_⟩
  fail "g"
  generalize hsz:upd σ' la _=σ3
  have oth3:∀ b co,b≠la->σ' b=some co->σ3 b=some co:=fun b co q e=>by rw [← hsz];exact zn q e
  have hx3:=oth3 _ _ (by rintro rfl;rw [hla2] at hx2;cases hx2) hx'
  have hd3:=oth3 _ _ q2.symm hd'
  have hsa3:=oth3 _ _ q4.symm hsa'
  have hra3:=oth3 _ _ q5 hra'
  have hla3:σ3 la=some (.list (xz row (k+2))):=by rw [← hsz];exact zb _ _ _
  clear hsz
  with_reducible refine' uU (bs:=[decide (0<=lft row k),ze row (lft row k)=="Regional_Indicator"]) ?x1 ?x2 ?_
  case x1=>simp
  case x2 =>
   refine ⟨?_,fun hc=>⟨?_,fun _=>trivial⟩⟩
   ·fail "o"
   ·have hc':0<=lft row k:=by simpa using hc
    fail "g"
    refine AttrTo.of (x:=x) (C:=400) (dx:=dx) rfl (hx3) (hd3) (by kernel_rfl) (by exact rfl) ?_
    fail "g"
    fail "n";refine zD (fun _ _=>rfl) hsa3 hc' (cv:=.str (ze row (lft row k))) (by have:=hsk (lft row k).toNat (o389 _ _ _ hc' b2 hk);rw [show (((lft row k).toNat:Nat):Int)=lft row k by exact o313 _ hc'] at this;exact this) ?_
    fail "o"
  fail "g"
  refine AttrTo.of (x:=x) (C:=400) (dx:=dx) rfl (hx3) (hd3) (by kernel_rfl) (by exact rfl) ?_
  refine MethTo.of (zA hra3) (zP) ?_
  fail "gx"
  have rr:tg row k++[CV.int (flg row (fuel row) k)]=tg row (k+1):=by unfold tg;rw [List.range_succ,List.map_append];rfl
  have hfl:flg row (fuel row) k=if 0<=(k:Int)/\ze row k = "Regional_Indicator" then flg row (row.length+1) (lft row k)+1 else 0:=rfl
  have hfz:flg row (row.length+1) (lft row k)=if 0<=lft row k/\ze row (lft row k) = "Regional_Indicator" then flg row (fuel row) (lft row k) else 0:=by
   have e1:=sj row (row.length+1) (lft row k) (o391 _ _ _ b2 hk) 1
   by_cases q:0<=lft row k/\ze row (lft row k) = "Regional_Indicator"
   ·rw [if_pos q];exact e1.symm
   ·rw [if_neg q];show (if 0<=lft row k/\ze row (lft row k) = "Regional_Indicator" then _ else _)=_;rw [if_neg q]
  fail "n";with_reducible refine' vA (u:=ze row k=="Regional_Indicator") (v:=.int (flg row (fuel row) k)) ?y1 ?y2 ?y3 ?_
  case y1=>fail "o"
  case y2 =>
   intro e
   have e':=eq_of_beq e
   rw [if_pos ⟨by exact o162 _,e'⟩] at hfl
   fail "gx"
   fail "n";with_reducible refine' vA (u:=[decide (0<=lft row k),ze row (lft row k)=="Regional_Indicator"].all id) (v:=.int (flg row (row.length+1) (lft row k))) ?z1 ?z2 ?z3 ?_
   case z1=>fail "o"
   case z2 =>
    intro ec
    have ec':0<=lft row k/\ze row (lft row k) = "Regional_Indicator":=by simpa using ec
    rw [if_pos ec'] at hfz
    fail "g"
    refine AttrTo.of (x:=x) (C:=400) (dx:=dx) rfl (hx3) (hd3) (by kernel_rfl) (by exact rfl) ?_
    fail "g"
    fail "n";refine zD (fun _ _=>rfl) hra3 ec'.1 (cv:=.int (flg row (fuel row) (lft row k))) (by have:=xy (fun (i:Nat)=>CV.int (flg row (fuel row) i)) (k:=k) (i:=(lft row k).toNat) (o392 _ _ _ ec' b2);rw [show (((lft row k).toNat:Nat):Int)=lft row k by exact o393 _ _ ec'] at this;exact this) ?_
    exact ⟨by rw [hfz],rfl⟩
   case z3 =>
    intro ec
    have ec':¬ (0<=lft row k/\ze row (lft row k) = "Regional_Indicator"):=by
     intro z;simp [z.1,z.2] at ec
    rw [if_neg ec'] at hfz
    fail "g"
    exact ⟨by rw [hfz];rfl,rfl⟩
   refine iA (z:=(flg row (fuel row) k:Int)) (by rw [hfl];exact o394 _) ⟨rfl,rfl⟩
  case y3 =>
   intro e
   have e':ze row k≠"Regional_Indicator":=fun z=>by rw [z] at e;exact absurd e (by decide)
   rw [if_neg (fun z=>e' z.2)] at hfl
   fail "g"
   exact ⟨by rw [hfl];rfl,rfl⟩
  fail "g"
  fail "n";refine y0 hra3 (by simp [tg];exact o395 _ _ _ hk hlen hbd) ?_
  rw [rr]
  refine ⟨rfl,?_⟩
  fail "g"
  refine (z0 ([("self",.ref x),("text",.ref tx)]) (?_) (tI (k+1) (o396 _ _ _ hm) (by rw [show row.length-(k+1)=m by exact o99 _ _ _ hm];rfl) rfl (zn q5.symm hla3) (zb _ _ _) (fun b co h1 h2 h3=>zn h2 (oth3 _ _ h1 (hoth _ _ h1 h2 h3)))))
  exact ⟨rfl,rfl,trivial⟩
end

section
variable {y:CW} {n:Nat} {σ:Sto} {Q:CV->Sto->Prop}
theorem uw (a:Int):∀ (k:Nat),rng a 1 k=(List.range k).map fun i=>CV.int (a+(i:Nat))
 | 0=>rfl
 | k+1=>by
  rw [List.range_succ_eq_map,List.map_cons,List.map_map]
  show CV.int a::rng (a+1) 1 k=_
  rw [uw (a+1) k]
  congr 1
  ·congr 1;exact o397 _
  ·refine List.map_congr_left fun i _=>?_
   show CV.int _=CV.int _
   congr 1;push_cast;exact o398 _ _
theorem yh {σ':Sto} {b:Addr} (s:Same [] σ σ') (h:σ' b=none):σ b=none:=by
 cases e:σ b with
 | none=>rfl
 | some co=>rw [s b co (by simp) e] at h;cases h
noncomputable def bnd (row:List Str) (pic:Nat->Bool):List Nat:=(List.range (row.length+1)).filter fun i=>rule row pic (i:Nat)
theorem oH {tx d:Addr} {text:List Int} {row:List Str} {pic:Nat->Bool} (W:WordCtx σ tx d text row pic) (h:∀ x σ',wz σ' x tx d row->Same [] σ σ'->Q (.ref x) σ'):OW y.c (n+6) VR [.ref tx,.ref d] (zQ (.ref 400)) Q σ :=
 pQ (fI:=369) (by kernel_rfl) (by kernel_rfl) (by kernel_rfl) fun x dx nx nd hne=>jm W (Same.newU (Same.newU Same.refl nd) (by rw [zB hne];exact nx)) nd (zb _ _ _) (zn (Ne.symm hne) (zb _ _ _))
  fun σ' P sm=>⟨rfl,h x σ' P sm⟩
noncomputable def mn (row:List Str) (pic:Nat->Bool):CV->Bool | .int i=>rule row pic i | _=>false
theorem lB (row:List Str) (pic:Nat->Bool):((rng 0 1 (row.length+1)).filter (mn row pic)).map (fun v=>v)=(bnd row pic).map fun (i:Nat)=>CV.int i:=by
 rw [uw,List.map_id',List.filter_map]
 unfold bnd
 have:∀ i:Nat,CV.int (0+(i:Nat))=CV.int (i:Nat):=fun i=>by congr 1;exact o399 _
 simp only [this]
 rfl
theorem y8 {tx d:Addr} {text:List Int} {row:List Str} {pic:Nat->Bool} (W:WordCtx σ tx d text row pic)
  (h:∀ σ' b,Same [] σ σ'->σ b=none->σ' b=some (.list ((bnd row pic).map fun (i:Nat)=>CV.int i))->Q (.ref b) σ'):OCd y.c (n+13) [.ref tx,.ref d] (.ref 437) Q σ:=by
 refine mF (fa:=437) rfl (by kernel_rfl) _ (bd2 (fun v w=>rfl)) (by kernel_rfl) (fun L=>by kernel_rfl) fun L=>?_
 have hlen:=W.len
 have hbd:=W.bound
 fail "g"
 refine oH W fun x σ1 P sm=>?_
 fail "g"
 have W1:=W.same sm
 with_reducible refine' ye (fv:=[("walk",.ref x)]) ?ok ?hs ?_
 case ok =>
  refine ⟨rfl,of_decide_eq_true (by kernel_rfl),rfl,?_,?_,?_⟩
  ·decide +kernel
  ·intro e he;rw [List.mem_singleton] at he;subst he;exact ⟨rfl,zx rfl,zx rfl,rfl⟩
  ·intro e he;rw [List.mem_singleton] at he;subst he;rfl
 case hs=>exact fun _=>rfl
 with_reducible refine' yR ?r1 ?r2 ?r3 ?r4 ?_
 case r1=>kernel_rfl
 case r2=>kernel_rfl
 case r3=>exact rfl
 case r4=>exact rfl
 fail "g"
 fail "n";refine xR W1.tx ?_
 fail "g"
 refine (zN (((row.length+1:Nat):Int)) (by rw [List.length_map,← hlen];rfl) (o400 _) (o401 _ _ hlen hbd) (?_))
 rw [Int.toNat_natCast]
 refine ⟨by rw [yv];exact o402 _ _ hlen hbd,(zV (mn row pic) (fun v=>v) (?_) (fun b nb=>?_))⟩
 ·intro v hv C
  rw [uw] at hv
  refine za (List.mem_map.mp hv) ?_;intro i hi q359;obtain rfl:=q359
  fail "g"
  refine ⟨rfl,⟨rfl,trivial⟩,sV ?_⟩
  fail "g"
  fail "n";refine (sv (m:=n+6) (jl (n:=n+9) W1 P) W1 ?_).ow
  fail "g"
  refine ⟨rfl,rfl,fun _=>?_⟩
  fail "g"
  exact ⟨rfl,rfl⟩
 rw [lB]
 fail "g"
 exact h _ b (Same.newU sm nb) (yh sm nb) (zb _ _ _)
noncomputable def prs (xs:List Nat):List CV:=(xs.zip xs.tail).map fun p=>.tup [.int (p.1:Nat),.int (p.2:Nat)]
noncomputable def qQ (xs:List Nat):CV->CV | .int i=>.tup [.int (xs.getD (i.toNat-1) 0:Nat),.int (xs.getD i.toNat 0:Nat)] | v=>v
theorem lC (xs:List Nat):((rng 1 1 (xs.length-1)).filter (fun _=>true)).map (qQ xs)=prs xs:=by
 rw [List.filter_eq_self.mpr (by simp),uw]
 unfold prs
 refine List.ext_getElem? fun i=>?_
 by_cases hi:i+1<xs.length
 ·rw [List.getElem?_map,List.getElem?_map,List.getElem?_range (o403 _ _ hi),List.getElem?_map,List.getElem?_eq_getElem (l:=xs.zip xs.tail) (by simp;exact o403 _ _ hi)]
  simp only [Option.map_some,List.getElem_zip,List.getElem_tail,qQ]
  rw [show ((1:Int)+(i:Nat)).toNat=i+1 by exact o404 _]
  simp [hi,show i<xs.length by exact o173 _ _ hi]
 ·rw [List.getElem?_eq_none_iff.mpr (by simp;exact o184 _ _ hi),List.getElem?_eq_none_iff.mpr (by simp;exact o184 _ _ hi)]
theorem ux {tx d:Addr} {text:List Int} {row:List Str} {pic:Nat->Bool} (W:WordCtx σ tx d text row pic)
  (h:∀ σ' b,Same [] σ σ'->σ b=none->σ' b=some (.list (prs (bnd row pic)))->Q (.ref b) σ'):OCd y.c (n+14) [.ref tx,.ref d] (.ref 442) Q σ:=by
 refine mF (fa:=442) rfl (by kernel_rfl) _ (bd2 (fun v w=>rfl)) (by kernel_rfl) (fun L=>by kernel_rfl) fun L=>?_
 have hlen:=W.len
 have hbd:=W.bound
 have hbl:(bnd row pic).length<=row.length+1:=by unfold bnd;exact Nat.le_trans (List.length_filter_le _ _) (by simp)
 fail "g"
 fail "n";refine (y8 W fun σ1 b sm nb hb=>?_).ow
 fail "g"
 with_reducible refine' ye (fv:=[("places",.ref b)]) ?ok ?hs ?_
 case ok =>
  refine ⟨rfl,of_decide_eq_true (by kernel_rfl),rfl,?_,?_,?_⟩
  ·decide +kernel
  ·intro e he;rw [List.mem_singleton] at he;subst he;exact ⟨rfl,zx rfl,zx rfl,rfl⟩
  ·intro e he;rw [List.mem_singleton] at he;subst he;rfl
 case hs=>exact fun _=>rfl
 with_reducible refine' xn ?r1 ?r2 ?r3 ?r4 ?_
 case r1=>kernel_rfl
 case r2=>kernel_rfl
 case r3=>exact rfl
 case r4=>exact rfl
 fail "g"
 fail "n";refine xR hb ?_
 fail "g"
 refine (wf 1 _ rfl (by exact o405) (by exact o406) (by rw [List.length_map];exact o372 _) (by rw [List.length_map];exact o407 _ _ _ hbl hlen hbd) (?_))
 rw [List.length_map,show (((bnd row pic).length:Int)-1).toNat=(bnd row pic).length-1 by exact o280 _]
 refine ⟨by rw [yv];exact o408 _ _ _ hbl hlen hbd,(zV (fun _=>true) (qQ (bnd row pic)) (?_) (fun b2 nb2=>?_))⟩
 ·intro v hv C
  rw [uw] at hv
  refine za (List.mem_map.mp hv) ?_;intro i hi q360;obtain rfl:=q360
  have hi':=List.mem_range.mp hi
  fail "g"
  refine ⟨rfl,⟨rfl,trivial⟩,vt ⟨rfl,rfl,fun _=>?_⟩⟩
  have at_:∀ j,j<(bnd row pic).length->((bnd row pic).map fun (i:Nat)=>CV.int i)[j]?=some (CV.int ((bnd row pic).getD j 0:Nat)):=fun j hj=>by simp [hj]
  fail "g"
  fail "n";refine zD (fun _ _=>rfl) hb (o409 _) (cv:=.int ((bnd row pic).getD i 0:Nat)) (by rw [show ((1:Int)+(i:Nat)-1).toNat=i by exact o410 _];exact at_ _ (o411 _ _ hi')) ?_
  fail "g"
  fail "n";refine zD (fun _ _=>rfl) hb (o412 _) (cv:=.int ((bnd row pic).getD (i+1) 0:Nat)) (by rw [show ((1:Int)+(i:Nat)).toNat=i+1 by exact o404 _];exact at_ _ (o413 _ _ hi')) ?_
  fail "g"
  refine ⟨by fail "t",?_,rfl⟩
  show CV.tup [_,_]=CV.tup [CV.int (((bnd row pic).getD (((1:Int)+(i:Nat)).toNat-1) 0:Nat)),CV.int ((bnd row pic).getD ((1:Int)+(i:Nat)).toNat 0:Nat)]
  rw [show ((1:Int)+(i:Nat)).toNat=i+1 by exact o404 _]
  rfl
 rw [lC]
 fail "g"
 exact h _ b2 (Same.newU sm nb2) (yh sm nb2) (zb _ _ _)
end

section
noncomputable def rG (k:Int):CV:=if 452<=k/\k<=454 then .int 453 else .none
noncomputable def rH (k:Int):CV:=if k=97 then .int 65 else if k=98 then .int 66 else if k=115 then .int 83 else if k=454 then .int 452 else .none
noncomputable def rI (k:Int):CV:=if k=65 then .int 97 else if k=66 then .int 98 else if k=83 then .int 115 else if 452<=k/\k<=453 then .int 454 else .none
noncomputable def uy (sl:Addr) (k:Int):CV:=if k=223 then .ref sl else .tup []
noncomputable def upv (k:Int):Int:=if k=97 then 65 else if k=98 then 66 else if k=115 then 83 else if k=454 then 452 else k
structure CaseCtx (σ:Sto) (d sl:Addr) (S:List Int):Prop where
 data:∃ keep N M G,DataIs keep σ d N M G/\N<=1000/\∀ k∈S,0<=k/\G "cased" k=.bool (casd k)/\G "stc" k=uy sl k/\G "slc" k=.tup []/\G "tc" k=rG k/\G "uc" k=rH k/\G "lc" k=rI k
 sl:σ sl=some (.list [.tup [.tup [.int 83,.int 115],.tup []]])
variable {y:CW} {n:Nat} {σ:Sto} {Q:CV->Sto->Prop}
theorem CaseCtx.same {σ':Sto} {d sl:Addr} {S:List Int} (C:CaseCtx σ d sl S) (s:Same [] σ σ'):CaseCtx σ' d sl S :=
 ⟨x0 (C.data) fun keep N M G D r=>(nH keep N M G (D.same s) r),s _ _ (by simp) C.sl⟩
theorem wB {d sl:Addr} {S:List Int} {k:Int} {name:Str} {v:CV} (C:CaseCtx σ d sl S) (hk:k∈S)
  (hv:∀ G:Str->Int->CV,(G "cased" k=.bool (casd k)/\G "stc" k=uy sl k/\G "slc" k=.tup []/\G "tc" k=rG k/\G "uc" k=rH k/\G "lc" k=rI k)->G name k=v)
  (h:Q v σ):OCd y.c (n+3) [.ref d,.str name,.int k] (.ref 287) Q σ:=by
 refine x5 (C.data) ?_;intro keep N M G D hN hG
 obtain ⟨h0,r⟩:=hG k hk
 exact vN D hN h0 (by rw [hv G r];exact h)
theorem xA {d sl:Addr} {S:List Int} (C:CaseCtx σ d sl S):yb y.c (.ref d) "get" (.ref 287) σ:=by
 refine x5 (C.data) ?_;intro keep N M G D hN hG
 refine x0 (id D) ?_;intro ddx df mp LL DA _
 refine zL (DA.attrs) ?_;intro pr wd hda
 exact zw DA.inst hda (f:=287) (by kernel_rfl) rfl
theorem jn (k:Int):(vW (rH k)=true->k=upv k)/\(vW (rH k)=false->rH k=.int (upv k)):=by
 unfold rH upv
 repeat' split
 all_goals first | exact ⟨fun h=>by simp [vW] at h,fun _=>rfl⟩ | exact ⟨fun _=>rfl,fun h=>by simp [vW] at h⟩
theorem mq (k:Int):(vW (rI k)=true->k=low k)/\(vW (rI k)=false->rI k=.int (low k)):=by
 unfold rI low
 by_cases h1:k=65
 ·subst h1;exact ⟨fun h=>absurd h (by decide),fun _=>rfl⟩
 by_cases h2:k=66
 ·subst h2;exact ⟨fun h=>absurd h (by decide),fun _=>rfl⟩
 by_cases h3:k=83
 ·subst h3;exact ⟨fun h=>absurd h (by decide),fun _=>rfl⟩
 by_cases h4:k=452
 ·subst h4;exact ⟨fun h=>absurd h (by decide),fun _=>rfl⟩
 by_cases h5:k=453
 ·subst h5;exact ⟨fun h=>absurd h (by decide),fun _=>rfl⟩
 have h6:¬ (452<=k/\k<=453):=by exact o414 _ h4 h5
 simp only [h1,h2,h3,h4,h5,h6,if_false]
 exact ⟨fun _=>by trivial,fun h=>by simp [vW] at h⟩
theorem mt (k:Int):(vW (rG k)=true->upv k=stl k)/\(vW (rG k)=false->rG k=.int (stl k)):=by
 unfold rG stl upv
 by_cases h4:k=452
 ·subst h4;exact ⟨fun h=>absurd h (by decide),fun _=>rfl⟩
 by_cases h5:k=453
 ·subst h5;exact ⟨fun h=>absurd h (by decide),fun _=>rfl⟩
 by_cases h6:k=454
 ·subst h6;exact ⟨fun h=>absurd h (by decide),fun _=>rfl⟩
 have h7:¬ (452<=k/\k<=454):=by exact o415 _ h4 h5 h6
 simp only [h4,h6,h7,if_false]
 refine ⟨fun _=>?_,fun h=>by simp [vW] at h⟩
 repeat' split
 all_goals first | rfl | trivial
theorem tq {d sl:Addr} {S:List Int} {k:Int} (C:CaseCtx σ d sl S) (hk:k∈S) (h:Q (.int (upv k)) σ):OCd y.c (n+4) [.int k,.ref d] (.ref 28) Q σ:=by
 refine wfD (fa:=28) rfl (by kernel_rfl) _ (zq (bd2 fun v w=>rfl)) (by kernel_rfl) fun L=>?_
 fail "g"
 refine ⟨_,xA C,zu rfl,?_⟩
 fail "g"
 fail "n";refine (wB (v:=rH k) C hk (fun G r=>r.2.2.2.2.1) ?_).ow
 fail "gx"
 fail "n";with_reducible refine' vA (u:=vW (rH k)) (v:=.int (upv k)) ?v1 ?v2 ?v3 ?_
 case v1=>fail "o"
 case v2=>intro e;fail "g";exact ⟨by rw [← (jn k).1 e],rfl⟩
 case v3=>intro e;fail "g";exact ⟨(jn k).2 e,rfl⟩
 fail "g"
 exact h
theorem tr {d sl:Addr} {S:List Int} {k:Int} (C:CaseCtx σ d sl S) (hk:k∈S) (h:Q (.int (low k)) σ):OCd y.c (n+4) [.int k,.ref d] (.ref 35) Q σ:=by
 refine wfD (fa:=35) rfl (by kernel_rfl) _ (zq (bd2 fun v w=>rfl)) (by kernel_rfl) fun L=>?_
 fail "g"
 refine ⟨_,xA C,zu rfl,?_⟩
 fail "g"
 fail "n";refine (wB (v:=rI k) C hk (fun G r=>r.2.2.2.2.2) ?_).ow
 fail "gx"
 fail "n";with_reducible refine' vA (u:=vW (rI k)) (v:=.int (low k)) ?v1 ?v2 ?v3 ?_
 case v1=>fail "o"
 case v2=>intro e;fail "g";exact ⟨by rw [← (mq k).1 e],rfl⟩
 case v3=>intro e;fail "g";exact ⟨(mq k).2 e,rfl⟩
 fail "g"
 exact h
theorem tu {d sl:Addr} {S:List Int} {k:Int} (C:CaseCtx σ d sl S) (hk:k∈S) (h:Q (.int (stl k)) σ):OCd y.c (n+5) [.int k,.ref d] (.ref 42) Q σ:=by
 refine wfD (fa:=42) rfl (by kernel_rfl) _ (zq (bd2 fun v w=>rfl)) (by kernel_rfl) fun L=>?_
 fail "g"
 refine ⟨_,xA C,zu rfl,?_⟩
 fail "g"
 fail "n";refine (wB (v:=rG k) C hk (fun G r=>r.2.2.2.1) ?_).ow
 fail "gx"
 fail "n";with_reducible refine' vA (u:=vW (rG k)) (v:=.int (stl k)) ?v1 ?v2 ?v3 ?_
 case v1=>fail "o"
 case v2=>intro e;fail "g";refine (tq C hk ?_).ow;exact ⟨by rw [(mt k).1 e],rfl⟩
 case v3=>intro e;fail "g";exact ⟨(mt k).2 e,rfl⟩
 fail "g"
 exact h
theorem vP (h:Q (.str "") σ):OCd y.c (n+1) [.str ""] (.ref 49) Q σ:=by
 refine wfD (fa:=49) rfl (by kernel_rfl) _ (zq (bd1 fun v=>rfl)) (by kernel_rfl) fun L=>?_
 fail "n";with_reducible refine' yI ?_ ?hs1
 case hs1=>exact fun _=>rfl
 with_reducible refine' pP ?r1 ?r2 ?r3 ?r4 ?_
 case r1=>kernel_rfl
 case r2=>kernel_rfl
 case r3=>exact rfl
 case r4=>exact rfl
 fail "g"
 refine ⟨rfl,(z0 (fun xs ρ' σ'=>xs=[]/\ρ'=([("language",.str "")]:Loc)/\σ'=σ) ((zN ([("language",.str "")]) (⟨rfl,trivial⟩) rfl rfl rfl)) (?_))⟩
 intro T hT;intro xs ρ' σ' z1;refine zh (z1) ?_;intro q361 q362 q363;obtain rfl:=q361;obtain rfl:=q362;obtain rfl:=q363
 refine ⟨trivial,?_⟩
 fail "g"
 exact h
theorem xf {tx d sl:Addr} {S text:List Int} {k:Int} {i:Nat} {name:Str} (b:Bool) (C:CaseCtx σ d sl S) (htx:σ tx=some (.list (text.map .int))) (hi:text[i]?=some k) (hk:k∈S)
  (hv:∀ G:Str->Int->CV,(G "cased" k=.bool (casd k)/\G "stc" k=uy sl k/\G "slc" k=.tup []/\G "tc" k=rG k/\G "uc" k=rH k/\G "lc" k=rI k)->G name k=if b=true then .ref sl else .tup [])
  (h:Q (if b=true then .tup [.int 83,.int 115] else .none) σ):OCd y.c (n+4) [.ref tx,.int i,.ref d,.str name,.str ""] (.ref 133) Q σ:=by
 refine wfD (fa:=133) rfl (by kernel_rfl) _ (zq (bd5 fun v w x z u=>rfl)) (by kernel_rfl) fun L=>?_
 fail "g"
 fail "n";with_reducible refine' yI (wm ?_) ?hs1
 case hs1=>exact fun _=>rfl
 fail "g"
 refine ⟨_,xA C,zu rfl,?_⟩
 fail "g"
 fail "n";refine zD (fun _ _=>rfl) htx (o162 _) (cv:=.int k) (by rw [List.getElem?_map,Int.toNat_natCast,hi];rfl) ?_
 fail "g"
 fail "n";refine (wB (v:=if b=true then .ref sl else .tup []) C hk hv ?_).ow
 cases b with
 | false =>
  refine (zV _ _ tT (z0 (fun xs ρ' σ'=>xs=[]/\ρ'=([("plain",.none)]:Loc)/\σ'=σ) ((zN ([("plain",.none)]) (⟨rfl,trivial⟩) rfl rfl rfl)) (?_)))
  intro T hT;intro xs ρ' σ' z2;refine zh (z2) ?_;intro q364 q365 q366;obtain rfl:=q364;obtain rfl:=q365;obtain rfl:=q366
  refine ⟨trivial,?_⟩
  fail "g"
  exact h
 | true =>
  refine (zV _ _ (zK C.sl) (z0 (fun xs ρ' σ'=>((xs=[.tup [.tup [.int 83,.int 115],.tup []]]/\ρ'=([("plain",.none)]:Loc))∨(xs=[]/\ρ'=([("plain",.tup [.int 83,.int 115])]:Loc)))/\σ'=σ) ((zt ([("plain",.none)]) (⟨rfl,trivial⟩) (.inl ⟨rfl,rfl⟩) rfl)) (?_)))
  intro T hT;rintro xs ρ' σ' ⟨⟨rfl,rfl⟩ | ⟨rfl,rfl⟩,rfl⟩
  ·refine ⟨C.sl,?_⟩
   fail "g"
   fail "if"
   fail "g"
   refine ⟨by fail "t",?_⟩
   fail "n";refine oEq (da:=.tuple []) (db:=.tuple []) rfl rfl rfl rfl ?_
   fail "g"
   exact (zt ([("plain",.tup [.int 83,.int 115])]) (⟨rfl,trivial⟩) (.inr ⟨rfl,rfl⟩) rfl)
  ·refine ⟨C.sl,?_⟩
   fail "g"
   exact h
theorem iS {c:Cx} {fd:FuncData} {n1 n2 n3 n4:Str} {a b d g:CV} {T:Addr} {o:Obj} {items:Array Value} {m:Nat} {k:Value->Value->Value->Value->Option (Array Value)->Sem (List (Str × Value))} (hd:fd.defaults=.ref T) (ho:c.K.lookup T=some o) (hs:o.data=.seq items m)
  (h₁:∀ v w x z,bindArgs fd ⟨[v,w,x,z],[]⟩=seqItems? fd.defaults >>= k v w x z) (h₂:∀ v w x z,k v w x z (some items)=pure [(n1,v),(n2,w),(n3,x),(n4,z)]) :
  ∀ (s:Shared) vals,c.K.In s.heap->VRs s.heap [a,b,d,g] vals->∃ binds,BindsTo s fd ⟨vals,[]⟩ binds/\Binds s.heap [(n1,a),(n2,b),(n3,d),(n4,g)] binds:=fun s vals X V=>by
 refine tN (iP V) ?_;intro v w x z q367 q1 q2 q3 q4;obtain rfl:=q367
 exact (z0 _ (binds_K X hd ho hs (h₁ v w x z) (h₂ v w x z)) (by exact (zj _ _ rfl q1 (zj _ _ rfl q2 (zj _ _ rfl q3 (zj _ _ rfl q4 rfl))))))
theorem gj {c:Cx} {fd:FuncData} {n1 n2 n3 n4:Str} {a b d:CV} {x4:Str} {t:Tok} {T:Addr} {o:Obj} {items:Array Value} {m:Nat} {k:Value->Value->Value->Option (Array Value)->Sem (List (Str × Value))} (hd:fd.defaults=.ref T) (ho:c.K.lookup T=some o) (hs:o.data=.seq items m)
  (h₁:∀ v w x,bindArgs fd ⟨[v,w,x],[]⟩=seqItems? fd.defaults >>= k v w x) (h₂:∀ v w x,k v w x (some items)=pure [(n1,v),(n2,w),(n3,x),(n4,.str x4 t)]) :
  ∀ (s:Shared) vals,c.K.In s.heap->VRs s.heap [a,b,d] vals->∃ binds,BindsTo s fd ⟨vals,[]⟩ binds/\Binds s.heap [(n1,a),(n2,b),(n3,d),(n4,.str x4)] binds:=fun s vals X V=>by
 refine rP (iO V) ?_;intro v w x q368 q1 q2 q3;obtain rfl:=q368
 exact (z0 _ (binds_K X hd ho hs (h₁ v w x) (h₂ v w x)) (by exact (zj _ _ rfl q1 (zj _ _ rfl q2 (zj _ _ rfl q3 (zj _ _ rfl isStr rfl))))))
theorem lD {tx d sl:Addr} {S text:List Int} {k:Int} {i:Nat} (C:CaseCtx σ d sl S) (htx:σ tx=some (.list (text.map .int))) (hi:text[i]?=some k) (hk:k∈S) (h:Q (.tup [.int (low k)]) σ):OCd y.c (n+6) [.ref tx,.int i,.ref d,.str ""] (.ref 141) Q σ:=by
 refine wfD (fa:=141) rfl (by kernel_rfl) _ (iS rfl rfl rfl (fun v w x z=>rfl) (fun v w x z=>rfl)) (by kernel_rfl) fun L=>?_
 fail "g"
 fail "n";refine (vP ?_).ow
 fail "g"
 fail "n";refine (xf (n:=n+1) false C htx hi hk (fun G r=>r.2.2.1) ?_).ow
 fail "g"
 fail "n";refine zD (fun _ _=>rfl) htx (o162 _) (cv:=.int k) (by rw [List.getElem?_map,Int.toNat_natCast,hi];rfl) ?_
 fail "g"
 fail "n";refine (tr (n:=n+1) C hk ?_).ow
 fail "g"
 exact ⟨by fail "t",h⟩
theorem lE {tx d sl:Addr} {S text:List Int} {k:Int} {i:Nat} (C:CaseCtx σ d sl S) (htx:σ tx=some (.list (text.map .int))) (hi:text[i]?=some k) (hk:k∈S) (h:Q (.tup ((ttl k).map .int)) σ):OCd y.c (n+6) [.ref tx,.int i,.ref d,.str ""] (.ref 149) Q σ:=by
 refine wfD (fa:=149) rfl (by kernel_rfl) _ (iS rfl rfl rfl (fun v w x z=>rfl) (fun v w x z=>rfl)) (by kernel_rfl) fun L=>?_
 fail "g"
 fail "n";refine (vP ?_).ow
 fail "g"
 by_cases hs:k=223
 ·fail "n";refine (xf (n:=n+1) true C htx hi hk (fun G r=>r.2.1.trans (by unfold uy;rw [if_pos hs];rfl)) ?_).ow
  fail "g"
  have e:ttl k=[83,115]:=by unfold ttl;rw [if_pos hs]
  rw [e] at h
  exact h
 ·fail "n";refine (xf (n:=n+1) false C htx hi hk (fun G r=>r.2.1.trans (by unfold uy;rw [if_neg hs];rfl)) ?_).ow
  fail "g"
  fail "n";refine zD (fun _ _=>rfl) htx (o162 _) (cv:=.int k) (by rw [List.getElem?_map,Int.toNat_natCast,hi];rfl) ?_
  fail "g"
  fail "n";refine (tu (n:=n) C hk ?_).ow
  fail "g"
  have e:ttl k=[stl k]:=by unfold ttl;rw [if_neg hs]
  rw [e] at h
  exact ⟨by fail "t",h⟩
end

section
variable {y:CW} {n:Nat} {σ:Sto} {Q:CV->Sto->Prop}
noncomputable def yJ (p:List Int):CV:=.tup (p.map .int)
theorem rq {pa:Addr} {P:List (List Int)} (hp:σ pa=some (.list (P.map yJ))) (hb:P.flatten.length<=1000) (h:∀ σ' b,Same [] σ σ'->σ b=none->σ' b=some (.list (P.flatten.map .int))->Q (.ref b) σ'):OCd y.c (n+1) [.ref pa] (.ref 156) Q σ:=by
 refine wfD (fa:=156) rfl (by kernel_rfl) _ (zq (bd1 fun v=>rfl)) (by kernel_rfl) fun L=>?_
 fail "g"
 refine ⟨by fail "t",fun fa nfa=>?_⟩
 fail "g"
 fail "n";with_reducible refine' yI (wm ?_) ?hs1
 case hs1=>exact fun _=>rfl
 fail "g"
 have hne:pa≠fa:=zf hp nfa
 refine ⟨_,_,zK (xs:=P.map yJ) (zk hp nfa),fun xs ρ' σ'=>∃ D R,P=D++R/\xs=R.map yJ/\ρ'=([("found",.ref fa)]:Loc)/\σ' fa=some (.list (D.flatten.map .int))/\(∀ b co,b≠fa->σ b=some co->σ' b=some co),(z0 ([("found",.ref fa)]) (⟨rfl,trivial⟩) (we ([]) P rfl rfl rfl (zb _ _ _) (fun b co h1 h2=>zn h1 h2))),?_⟩
 intro T hT;intro xs ρ' σ' z1;refine rM (z1) ?_;intro D R q369 q370 q371 hfa hoth;obtain rfl:=q369;obtain rfl:=q370;obtain rfl:=q371
 refine ⟨hoth _ _ hne hp,?_⟩
 cases R with
 | nil =>
  simp only [List.map_nil]
  fail "g"
  rw [List.append_nil] at h
  exact h σ' fa (fun a co _ e=>hoth a co (zf e nfa) e) nfa hfa
 | cons p R =>
  simp only [List.map_cons]
  fail "g"
  refine MethTo.of (sX hfa) (zP) ?_
  fail "g"
  simp only [List.flatten_append,List.flatten_cons,List.length_append] at hb
  fail "n";refine pJ hfa (by rw [List.length_map,List.length_map];exact o416 _ _ _ hb) ?_
  refine ⟨rfl,?_⟩
  fail "g"
  refine (z0 ([("found",.ref fa)]) (⟨rfl,trivial⟩) (we (D++[p]) R (by simp) rfl rfl (?_) (fun b co h1 h2=>zn h1 (hoth b co h1 h2))))
  rw [zb];simp
noncomputable def fcs (text:List Int):Nat->Nat->Option Nat
 | 0,_=>none
 | m+1,p=>if casd (text.getD p 0)=true then some p else fcs text m (p+1)
noncomputable def iT:Option Nat->CV | none=>.none | some i=>.int (i:Nat)
theorem jo {text:List Int} {i:Nat} (h:i<text.length):(text.map CV.int)[((i:Nat):Int).toNat]?=some (.int (text.getD i 0)):=by simp [h]
theorem qR {tx d sl:Addr} {S text:List Int} {lo hi:Nat} (C:CaseCtx σ d sl S) (htx:σ tx=some (.list (text.map .int))) (hS:∀ k∈text,k∈S) (hb:text.length<=1000) (hhi:hi<=text.length) (hlo:lo<=hi) (h:Q (iT (fcs text (hi-lo) lo)) σ) :
  OCd y.c (n+4) [.ref tx,.int lo,.int hi,.ref d] (.ref 163) Q σ:=by
 refine wfD (fa:=163) rfl (by kernel_rfl) _ (zq (bd4 fun v w x z=>rfl)) (by kernel_rfl) fun L=>?_
 fail "n";with_reducible refine' yI ?_ ?hs1
 case hs1=>exact fun _=>rfl
 with_reducible refine' xn ?r1 ?r2 ?r3 ?r4 ?_
 case r1=>kernel_rfl
 case r2=>kernel_rfl
 case r3=>exact rfl
 case r4=>exact rfl
 fail "g"
 refine ⟨_,_,rfl,by exact o372 _,by exact o417 _ _ _ hlo hhi hb,by exact o372 _,by exact o418 _ _ hhi hb,fun xs ρ' σ'=>∃ p m,xs=rng (p:Nat) 1 m/\p+m=hi/\fcs text (hi-lo) lo=fcs text m p/\ρ'=([("text",.ref tx),("data",.ref d)]:Loc)/\σ'=σ,(z0 ([("text",.ref tx),("data",.ref d)]) (⟨rfl,rfl,trivial⟩) (we lo (hi-lo) (by congr 1;exact o419 _ _) (o234 _ _ hlo) rfl rfl rfl)),?_⟩
 intro T hT;intro xs ρ' σ' z2;refine rM (z2) ?_;intro p m q372 hpm hf q373 q374;obtain rfl:=q372;obtain rfl:=q373;obtain rfl:=q374
 refine ⟨trivial,?_⟩
 rw [hf] at h
 cases m with
 | zero =>
  simp only [rng]
  fail "g"
  exact h
 | succ m =>
  simp only [rng]
  fail "g"
  fail "if"
  fail "g"
  refine ⟨_,xA C,zu rfl,?_⟩
  fail "g"
  fail "n";refine zD (fun _ _=>rfl) htx (o162 _) (cv:=.int (text.getD p 0)) (jo (o420 _ _ _ _ hpm hhi)) ?_
  fail "g"
  have hk:text.getD p 0∈S:=hS _ (by simp [show p<text.length from o420 _ _ _ _ hpm hhi])
  fail "n";refine (wB (v:=.bool (casd (text.getD p 0))) C hk (fun G r=>r.1) ?_).ow
  fail "g"
  have hstep:fcs text (m+1) p=if casd (text.getD p 0)=true then some p else fcs text m (p+1):=rfl
  cases hc:casd (text.getD p 0) with
  | true =>
   fail "g"
   rw [hstep,if_pos hc] at h
   exact h
  | false =>
   fail "g"
   refine (z0 ([("text",.ref tx),("data",.ref d)]) (⟨rfl,rfl,trivial⟩) (we (p+1) m (by congr 1) (o244 _ _ _ hpm) (?_) rfl rfl))
   rw [hf,hstep,if_neg (by rw [hc];decide)]
noncomputable def bgs (m:Nat) (ws:List Nat):List Nat:=0::ws.filter fun w=>decide (0<w)&&decide (w<m)
noncomputable def sgs (m:Nat) (ws:List Nat):List (Nat × Nat):=((bgs m ws).zip ((bgs m ws).tail++[m])).filter fun p=>decide (p.1<p.2)
noncomputable def zX (w:Nat):CV:=.int (w:Nat)
noncomputable def rx (p:Nat × Nat):CV:=.tup [.int (p.1:Nat),.int (p.2:Nat)]
noncomputable def inside (m:Nat):CV->Bool | .int i=>decide (0<i)&&decide (i<m) | _=>false
theorem rz (m:Nat) (ws:List Nat):((ws.map zX).filter (inside m)).map (fun v=>v)=(ws.filter fun w=>decide (0<w)&&decide (w<m)).map zX:=by
 rw [List.map_id',List.filter_map]
 congr 1
 refine List.filter_congr fun w _=>?_
 show (decide ((0:Int)<(w:Nat))&&decide (((w:Nat):Int)<m))=_
 rw [Bool.eq_iff_iff]
 simp
theorem yZ (ws:List Nat):ws.map zX=(ws.map fun (w:Nat)=>(w:Int)).map CV.int:=by rw [List.map_map];rfl
theorem lF (m:Nat) (ws:List Nat):((((bgs m ws).map fun (w:Nat)=>(w:Int)).zip (((bgs m ws).tail++[m]).map fun (w:Nat)=>(w:Int))).filter fun q=>decide (q.1<q.2)).map (fun q=>CV.tup [.int q.1,.int q.2])=(sgs m ws).map rx:=by
 unfold sgs
 rw [List.zip_map,List.filter_map,List.map_map]
 have:((fun q:Int × Int=>decide (q.1<q.2)) ∘ Prod.map (fun w:Nat=>(w:Int)) fun w:Nat=>(w:Int))=fun p:Nat × Nat=>decide (p.1<p.2):=by
  funext p
  show decide (((p.1:Nat):Int)<((p.2:Nat):Int))=_
  rw [Bool.eq_iff_iff];simp
 rw [this]
 rfl
theorem uz {tx wa:Addr} {text:List Int} {ws:List Nat} (htx:σ tx=some (.list (text.map .int))) (hwa:σ wa=some (.list (ws.map zX))) (hb:text.length<=500) (hw:ws.length<=500)
  (h:∀ σ' b,Same [] σ σ'->σ b=none->σ' b=some (.list ((sgs text.length ws).map rx))->Q (.ref b) σ'):OCd y.c (n+2) [.ref tx,.ref wa] (.ref 168) Q σ:=by
 refine mF (fa:=168) rfl (by kernel_rfl) _ (bd2 (fun v w=>rfl)) (by kernel_rfl) (fun L=>by kernel_rfl) fun L=>?_
 have hbl:(bgs text.length ws).length<=501:=by unfold bgs;have:=List.length_filter_le (fun w=>decide (0<w)&&decide (w<text.length)) ws;simp only [List.length_cons];exact o421 _ _ this hw
 fail "g"
 refine ⟨by fail "t",fun a na=>?_⟩
 fail "n";with_reducible refine' ye (fv:=[("text",.ref tx)]) ?ok ?hs ?_
 case ok =>
  refine ⟨rfl,of_decide_eq_true (by kernel_rfl),rfl,?_,?_,?_⟩
  ·decide +kernel
  ·intro e he;rw [List.mem_singleton] at he;subst he;exact ⟨rfl,zx rfl,zx rfl,rfl⟩
  ·intro e he;rw [List.mem_singleton] at he;subst he;rfl
 case hs=>exact fun _=>rfl
 refine wm ?_
 fail "g"
 refine (zj _ _ (zK (zk hwa na)) (by simp;exact o422 _ hw) (zV (inside text.length) (fun v=>v) (?_) (fun b nb=>?_)))
 ·intro v hv C
  refine za (List.mem_map.mp hv) ?_;intro w _ q375;obtain rfl:=q375
  unfold zX
  fail "g"
  refine ⟨rfl,⟨rfl,trivial⟩,sV ?_⟩
  fail "g"
  refine (z0 _ rfl (?_))
  by_cases h0:(0:Int)<(w:Nat)
  ·first | refine Br.yes h0 ?_ | refine Br.eqT h0 ?_ | refine Br.zT h0 ?_ | refine Br.pos (by simpa using h0) ?_
   fail "g"
   fail "n";refine xR (zk htx na) ?_
   fail "g"
   refine (zN _ rfl rfl (?_) (fun _=>?_))
   ·show _=(decide ((0:Int)<(w:Nat))&&decide (((w:Nat):Int)<text.length))
    rw [List.length_map,decide_eq_true h0];rfl
   ·fail "g";exact ⟨rfl,rfl⟩
  ·first | refine Br.no h0 ?_ | refine Br.eqF h0 ?_ | refine Br.zF h0 ?_ | refine Br.nay (by simpa using h0) ?_
   refine ⟨rfl,?_,fun e=>by cases e⟩
   show _=(decide ((0:Int)<(w:Nat))&&decide (((w:Nat):Int)<text.length))
   rw [decide_eq_false h0];rfl
 rw [rz]
 fail "n";refine uQ (xs:=[.int 0]) (ys:=(ws.filter fun w=>decide (0<w)&&decide (w<text.length)).map zX) (zk (zb _ _ _) nb) (zb _ _ _) (by have:=List.length_filter_le (fun w=>decide (0<w)&&decide (w<text.length)) ws;simp only [List.length_map,List.length_cons,List.length_nil];exact o423 _ _ this hw) fun e ne=>?_
 have hbg:[CV.int 0]++(ws.filter fun w=>decide (0<w)&&decide (w<text.length)).map zX=(bgs text.length ws).map zX:=rfl
 rw [hbg]
 generalize hs1:upd (upd (upd σ a _) b _) e _=σ1
 have sm1:Same [] σ σ1:=by rw [← hs1];fail "sm"
 have he1:σ1 e=some (.list ((bgs text.length ws).map zX)):=by rw [← hs1];exact zb _ _ _
 clear hs1
 have htx1:=sm1 _ _ (by simp) htx
 fail "g"
 fail "n";with_reducible refine' pV (fun i j=>decide (i<j)) ?ok ?hs ?hkd ?hn ?hp ?he ?_
 case ok=>exact ⟨rfl,of_decide_eq_true (by kernel_rfl),rfl,by decide +kernel,fun e he=>absurd he List.not_mem_nil,fun e he=>absurd he List.not_mem_nil⟩
 case hs=>exact fun _=>rfl
 case hkd=>exact rfl
 case hn=>kernel_rfl
 case hp=>exact rfl
 case he=>exact rfl
 fail "g"
 refine (z0 1 rfl (?_))
 fail "g"
 refine (zj e _ rfl he1 (fun f nf=>?_))
 rw [yo (by decide) (by rw [List.length_map];unfold bgs;rw [List.length_cons];exact o424 _)]
 fail "g"
 fail "n";refine xR (zk htx1 nf) ?_
 fail "g"
 refine ⟨by fail "t",fun g ng=>?_⟩
 fail "n";refine uQ (xs:=(List.map zX (bgs text.length ws)).drop (1:Int).toNat) (ys:=[.int (text.length:Nat)]) (zk (zb _ _ _) ng) (by rw [List.length_map];exact zb _ _ _) (by simp only [List.length_drop,List.length_map,List.length_cons,List.length_nil];exact o425 _ hbl) fun k nk=>?_
 have hen:(List.map zX (bgs text.length ws)).drop (1:Int).toNat++[CV.int (text.length:Nat)]=(((bgs text.length ws).tail++[text.length]).map fun (w:Nat)=>(w:Int)).map CV.int:=by
  rw [List.map_map,List.map_append];rfl
 rw [hen]
 fail "g"
 refine (vZ e k ((bgs text.length ws).map fun (w:Nat)=>(w:Int)) (((bgs text.length ws).tail++[text.length]).map fun (w:Nat)=>(w:Int)) rfl (?_) (zb _ _ _) (by rw [List.length_map];exact o426 _ hbl) (?_) (fun d nd=>?_))
 ·rw [yZ] at he1;exact zk (zk (zk he1 nf) ng) nk
 ·intro q hq C
  fail "g"
  refine ⟨rfl,sV ?_⟩
  fail "g"
  refine ⟨rfl,rfl,fun _=>?_⟩
  fail "g"
  exact ⟨rfl,rfl⟩
 rw [lF]
 fail "g"
 have sm2:Same [] σ (upd (upd (upd σ1 f (CO.list ((List.map zX (bgs text.length ws)).drop (1:Int).toNat))) g (CO.list [CV.int ((text.map CV.int).length:Nat)])) k (CO.list ((((bgs text.length ws).tail++[text.length]).map fun (w:Nat)=>(w:Int)).map CV.int))):=Same.newU (Same.newU (Same.newU sm1 nf) ng) nk
 exact h _ d (Same.newU sm2 nd) (yh sm2 nd) (zb _ _ _)
end

section
variable {y:CW} {n:Nat} {σ:Sto} {Q:CV->Sto->Prop}
theorem v7 {c:Cx} {a:CV} (h:Q (.bool (!vW a)) σ):OW c n VR [a,.none] (cmp .IsNot) Q σ :=
 ow2 fun A s v w _ G hv hw=>by
  obtain rfl:=xQ hw
  cases a with
  | none=>obtain rfl:=xQ hv;exact wpAny_isNot_plain rfl (PG.same0 G (g:=CV.bool false) zC h)
  | bool b=>obtain rfl:=yO hv;exact isnot_none_ne (by intro x;cases x) (PG.same0 G (g:=CV.bool true) zC h)
  | int i=>obtain ⟨t,rfl⟩:=zz hv;exact isnot_none_ne (by intro x;cases x) (PG.same0 G (g:=CV.bool true) zC h)
  | str x=>obtain ⟨t,rfl⟩:=yN hv;exact isnot_none_ne (by intro x;cases x) (PG.same0 G (g:=CV.bool true) zC h)
  | tup xs=>refine y6 (xW hv) ?_;intro a items q378 _;obtain rfl:=q378;exact isnot_none_ne (by intro x;cases x) (PG.same0 G (g:=CV.bool true) zC h)
  | ref a=>obtain rfl:=zO hv;exact isnot_none_ne (by intro x;cases x) (PG.same0 G (g:=CV.bool true) zC h)
theorem sy {text:List Int}:∀ {m p f:Nat},fcs text m p=some f->p<=f/\f<p+m
 | 0,p,f,h=>by simp [fcs] at h
 | m+1,p,f,h=>by
  unfold fcs at h
  split at h
  ·cases h;exact o427 _ _
  ·have:=sy h;exact o428 _ _ _ this
noncomputable def vQ (text:List Int):Nat->Nat->List (List Int)->List (List Int)
 | 0,_,F=>F
 | m+1,p,F=>vQ text m (p+1) (F.set p [low (text.getD p 0)])
noncomputable def lG (text:List Int) (F:List (List Int)) (e:Nat × Nat):List (List Int):=match fcs text (e.2-e.1) e.1 with
 | none=>F
 | some f=>vQ text (e.2-(f+1)) (f+1) (F.set f (ttl (text.getD f 0)))
noncomputable def sing (k:Int):List Int:=[k]
noncomputable def mu:CV->CV | .int k=>.tup [.int k] | v=>v
noncomputable def ptit (text:List Int) (segs:List (Nat × Nat)):List (List Int):=segs.foldl (lG text) (text.map sing)
theorem lH (text:List Int):((text.map CV.int).filter (fun _=>true)).map mu=(text.map sing).map yJ:=by
 rw [List.filter_eq_self.mpr (by simp),List.map_map,List.map_map];rfl
theorem jp {m:Nat} {ws:List Nat}:∀ p∈sgs m ws,p.1<p.2/\p.2<=m:=fun p hp=>by
 unfold sgs at hp
 rw [List.mem_filter] at hp
 refine ⟨by simpa using hp.2,?_⟩
 have h2:=(List.of_mem_zip (a:=p.1) (b:=p.2) hp.1).2
 rcases List.mem_append.mp h2 with h | h
 ·unfold bgs at h
  rw [List.tail_cons,List.mem_filter] at h
  have:=h.2
  simp only [Bool.and_eq_true,decide_eq_true_eq] at this
  exact o429 _ _ this
 ·rw [List.mem_singleton] at h;exact o199 _ _ h
theorem wC {tx d wa sl:Addr} {S text:List Int} {ws:List Nat} {args:List CV} (ha:args=[.ref tx,.ref d,.ref wa,.str ""]∨args=[.ref tx,.ref d,.ref wa]) (C:CaseCtx σ d sl S) (htx:σ tx=some (.list (text.map .int))) (hwa:σ wa=some (.list (ws.map zX))) (hS:∀ k∈text,k∈S) (hb:text.length<=500) (hw:ws.length<=500)
  (h:∀ σ' b,Same [] σ σ'->σ b=none->σ' b=some (.list ((ptit text (sgs text.length ws)).map yJ))->Q (.ref b) σ'):OCd y.c (n+8) args (.ref 181) Q σ:=by
 refine wfD (fa:=181) rfl (by kernel_rfl) [("text",.ref tx),("data",.ref d),("words",.ref wa),("language",.str "")] (by
  rcases ha with rfl | rfl
  ·exact iS rfl rfl rfl (fun v w x z=>rfl) (fun v w x z=>rfl)
  ·exact gj rfl rfl rfl (fun v w x=>rfl) (fun v w x=>rfl)) (by kernel_rfl) fun L=>?_
 fail "gx"
 fail "g"
 fail "n";refine (vP ?_).ow
 fail "n";(try fail "sr")
 fail "n";(with_reducible refine xr ?_);with_reducible refine' y9 (fv:=[]) (cl:=[]) ?sw ?ok ?hs ?_
 case sw=>exact rfl
 case ok=>exact ⟨rfl,of_decide_eq_true (by kernel_rfl),rfl,by decide +kernel,fun e he=>absurd he List.not_mem_nil,fun e he=>absurd he List.not_mem_nil⟩
 case hs=>exact fun _=>rfl
 refine wm ?_
 fail "g"
 refine (zj _ _ (zK htx) (by simp;exact o422 _ hb) (zV (fun _=>true) mu (?_) (fun fa nfa=>?_)))
 ·intro v hv C
  refine za (List.mem_map.mp hv) ?_;intro k hk q379;obtain rfl:=q379
  fail "g"
  refine ⟨rfl,trivial,vt ⟨rfl,rfl,fun _=>?_⟩⟩
  fail "g"
  exact ⟨by fail "t",rfl,rfl⟩
 rw [lH]
 fail "g"
 fail "n";with_reducible refine' yI (wm ?_) ?hs1
 case hs1=>exact fun _=>rfl
 fail "g"
 fail "n";refine (uz (n:=n+5) (zk htx nfa) (zk hwa nfa) hb hw fun σ1 b sm1 nb1 hb1=>?_).ow
 have hfa1:σ1 fa=some (.list ((text.map sing).map yJ)):=sm1 _ _ (by simp) (zb _ _ _)
 have hbf:b≠fa:=by rintro rfl;rw [zb] at nb1;cases nb1
 refine ⟨_,_,zK hb1,fun xs ρ' σ'=>∃ R F,xs=R.map rx/\ρ'=([("text",.ref tx),("data",.ref d),("base",.str ""),("found",.ref fa)]:Loc)/\σ' fa=some (.list (F.map yJ))/\F.length=text.length/\R.foldl (lG text) F=ptit text (sgs text.length ws)/\(∀ p∈R,p.1<p.2/\p.2<=text.length)/\(∀ c co,c≠fa->σ1 c=some co->σ' c=some co),
  ⟨[("text",.ref tx),("data",.ref d),("base",.str ""),("found",.ref fa)],⟨rfl,rfl,rfl,rfl,trivial⟩,sgs text.length ws,text.map sing,rfl,rfl,hfa1,by simp,rfl,jp,fun _ _ _ e=>e⟩,?_⟩
 intro T hT;intro xs ρ' σ' z1;refine nC (z1) ?_;intro R F q380 q381 hfa' hFl hR hin hoth;obtain rfl:=q380;obtain rfl:=q381
 refine ⟨hoth _ _ hbf hb1,?_⟩
 have smo:∀ {σ2:Sto},(∀ c co,c≠fa->σ1 c=some co->σ2 c=some co)->Same [] σ σ2:=fun ho a co _ e=>ho a co (zf e nfa) (sm1 a co (by simp) (zk e nfa))
 cases R with
 | nil =>
  simp only [List.map_nil]
  fail "g"
  refine h σ' fa (smo hoth) nfa ?_
  rw [hfa',← hR];rfl
 | cons e R =>
  obtain ⟨lo,hi⟩:=e
  obtain ⟨hlt,hle⟩:=hin (lo,hi) List.mem_cons_self
  have hin':∀ p∈R,p.1<p.2/\p.2<=text.length:=fun p hp=>hin p (List.mem_cons_of_mem _ hp)
  simp only at hlt hle
  simp only [List.map_cons,rx]
  fail "g"
  fail "n";refine (qR (n:=n+3) (C.same (smo hoth)) (smo hoth _ _ (by simp) htx) hS (o430 _ hb) hle (o257 _ _ hlt) ?_).ow
  fail "g"
  fail "if"
  fail "g"
  fail "n";refine v7 ?_
  have hstp:lG text F (lo,hi)=(match fcs text (hi-lo) lo with | none=>F | some f=>vQ text (hi-(f+1)) (f+1) (F.set f (ttl (text.getD f 0)))):=rfl
  rw [List.foldl_cons,hstp] at hR
  cases hf:fcs text (hi-lo) lo with
  | none =>
   rw [hf] at hR
   simp only [iT]
   fail "g"
   exact (z0 ([("text",.ref tx),("data",.ref d),("base",.str ""),("found",.ref fa)]) (⟨rfl,rfl,rfl,rfl,trivial⟩) (rO R F rfl rfl hfa' hFl hR hin' hoth))
  | some f =>
   rw [hf] at hR
   have hR':R.foldl (lG text) (vQ text (hi-(f+1)) (f+1) (F.set f (ttl (text.getD f 0))))=ptit text (sgs text.length ws):=hR
   obtain ⟨hf1,hf2⟩:=sy hf
   have hfl:f<text.length:=by exact o431 _ _ _ _ hf2 hlt hle
   have hgk:∀ i,i<text.length->text.getD i 0∈S/\text[i]?=some (text.getD i 0):=fun i hi=>⟨hS _ (by simp [hi]),by simp [hi]⟩
   simp only [iT]
   fail "g"
   fail "n";refine (lE (n:=n+1) (C.same (smo hoth)) (smo hoth _ _ (by simp) htx) (hgk f hfl).2 (hgk f hfl).1 ?_).ow
   fail "g"
   refine i5 hfa' (o162 _) (by rw [List.length_map];exact o432 _ _ _ hfl hFl) ?_
   rw [Int.toNat_natCast,show (F.map yJ).set f (CV.tup ((ttl (text.getD f 0)).map .int))=(F.set f (ttl (text.getD f 0))).map yJ by rw [List.map_set];rfl]
   fail "g"
   generalize hs2:upd σ' fa _=σ2
   have hfa2:σ2 fa=some (.list ((F.set f (ttl (text.getD f 0))).map yJ)):=by rw [← hs2];exact zb _ _ _
   have hoth2:∀ c co,c≠fa->σ1 c=some co->σ2 c=some co:=fun c co h1 h2=>by rw [← hs2];exact zn h1 (hoth c co h1 h2)
   clear hs2
   fail "n";with_reducible refine' yI ?_ ?hs3
   case hs3=>exact fun _=>rfl
   with_reducible refine' xn ?r1 ?r2 ?r3 ?r4 ?_
   case r1=>kernel_rfl
   case r2=>kernel_rfl
   case r3=>exact rfl
   case r4=>exact rfl
   fail "g"
   refine ⟨_,_,rfl,by exact o433 _,by exact o434 _ _ hfl hb,by exact o372 _,by exact o435 _ _ hle hb,fun xs ρ' σ'=>∃ m q F',xs=rng (q:Nat) 1 m/\q+m=hi/\f<q/\F'.length=text.length/\vQ text m q F'=vQ text (hi-(f+1)) (f+1) (F.set f (ttl (text.getD f 0)))/\ρ'=([("text",.ref tx),("data",.ref d),("base",.str ""),("found",.ref fa)]:Loc)/\σ' fa=some (.list (F'.map yJ))/\(∀ c co,c≠fa->σ1 c=some co->σ' c=some co),
    (z0 ([("text",.ref tx),("data",.ref d),("base",.str ""),("found",.ref fa)]) (⟨rfl,rfl,rfl,rfl,trivial⟩) (tL (hi-(f+1)) (f+1) (F.set f (ttl (text.getD f 0))) (by congr 1;exact o436 _ _) (o437 _ _ _ hf2 hlt) (o332 _) (by rw [List.length_set];exact hFl) rfl rfl hfa2 hoth2)),?_⟩
   intro T hT;intro xs ρ' σ3 z2;refine nG (z2) ?_;intro m q F' q382 hq hfq hFl' hlow q383 hfa3 hoth3;obtain rfl:=q382;obtain rfl:=q383
   refine ⟨trivial,?_⟩
   cases m with
   | zero =>
    simp only [rng]
    fail "g"
    fail "if"
    fail "g"
    fail "n";refine v7 ?_
    fail "g"
    exact (z0 ([("text",.ref tx),("data",.ref d),("base",.str ""),("found",.ref fa)]) (⟨rfl,rfl,rfl,rfl,trivial⟩) (rO R F' rfl rfl hfa3 hFl' (by rw [← hR',← hlow];rfl) hin' hoth3))
   | succ m =>
    simp only [rng]
    have hql:q<text.length:=by exact o420 _ _ _ _ hq hle
    fail "g"
    fail "n";refine (lD (n:=n+1) (C.same (smo hoth3)) (smo hoth3 _ _ (by simp) htx) (hgk q hql).2 (hgk q hql).1 ?_).ow
    fail "g"
    refine i5 hfa3 (o162 _) (by rw [List.length_map];exact o432 _ _ _ hql hFl') ?_
    rw [Int.toNat_natCast,show (F'.map yJ).set q (CV.tup [.int (low (text.getD q 0))])=(F'.set q [low (text.getD q 0)]).map yJ by rw [List.map_set];rfl]
    fail "g"
    exact (z0 ([("text",.ref tx),("data",.ref d),("base",.str ""),("found",.ref fa)]) (⟨rfl,rfl,rfl,rfl,trivial⟩) (tL m (q+1) (F'.set q [low (text.getD q 0)]) (by congr 1) (o244 _ _ _ hq) (o160 _ _ hfq) (by rw [List.length_set];exact hFl') hlow rfl (zb _ _ _) (fun c co h1 h2=>zn h1 (hoth3 c co h1 h2))))
theorem qS {tx d wa sl:Addr} {S text:List Int} {ws:List Nat} (C:CaseCtx σ d sl S) (htx:σ tx=some (.list (text.map .int))) (hwa:σ wa=some (.list (ws.map zX))) (hS:∀ k∈text,k∈S) (hb:text.length<=500) (hw:ws.length<=500) (hf:(ptit text (sgs text.length ws)).flatten.length<=1000)
  (h:∀ σ' b,Same [] σ σ'->σ b=none->σ' b=some (.list ((ptit text (sgs text.length ws)).flatten.map .int))->Q (.ref b) σ'):OCd y.c (n+9) [.ref tx,.ref d,.ref wa] (.ref 189) Q σ:=by
 refine wfD (fa:=189) rfl (by kernel_rfl) _ (gj rfl rfl rfl (fun v w x=>rfl) (fun v w x=>rfl)) (by kernel_rfl) fun L=>?_
 fail "g"
 fail "n";refine (wC (n:=n) (.inl rfl) C htx hwa hS hb hw fun σ1 b sm nb hb=>?_).ow
 fail "g"
 fail "n";refine (rq (n:=n+7) hb hf fun σ2 b2 sm2 nb2 hb2=>?_).ow
 fail "g"
 exact h σ2 b2 (sm.trans sm2) (yh sm nb2) hb2
end

theorem uA:∀ Y:List Int,yk true Y=Y.map fun c=>[low c]
 | []=>rfl
 | c::Y=>by
  unfold yk
  rw [uA Y,List.map_cons]
  cases h:casd c with
  | true=>rfl
  | false=>simp only [Bool.false_eq_true,if_false];rw [lj h]
theorem yi:∀ (Y:List Int) (b:Bool),(yk b Y).length=Y.length
 | [],b=>by simp [yk]
 | c::Y,b=>by
  unfold yk
  split <;> simp [yi Y]
theorem sA (X Y:List Int) (c:Int):(X++c::Y).getD X.length 0=c:=by simp
theorem qT {α:Type} (A B:List α) (x z:α) {p:Nat} (h:A.length=p):(A++x::B).set p z=A++z::B:=by
 subst h;simp
theorem qU:∀ (Y X Z:List Int) (A B:List (List Int)),A.length=X.length->vQ (X++(Y++Z)) Y.length X.length (A++(Y.map sing++B))=A++(Y.map (fun c=>[low c])++B)
 | [],X,Z,A,B,h=>rfl
 | c::Y,X,Z,A,B,h=>by
  have ih:=qU Y (X++[c]) Z (A++[[low c]]) B (by simp [h])
  show vQ (X++c::(Y++Z)) Y.length (X.length+1) ((A++sing c::(Y.map sing++B)).set X.length [low ((X++c::(Y++Z)).getD X.length 0)])=_
  rw [sA,qT _ _ _ _ h]
  simp only [List.length_append,List.length_singleton,List.append_assoc,List.cons_append,List.nil_append] at ih
  rw [ih];rfl
noncomputable def jq (text:List Int) (m p:Nat) (F:List (List Int)):List (List Int):=match fcs text m p with
 | none=>F
 | some f=>vQ text (p+m-(f+1)) (f+1) (F.set f (ttl (text.getD f 0)))
theorem mv:∀ (Y X Z:List Int) (A B:List (List Int)),A.length=X.length->jq (X++(Y++Z)) Y.length X.length (A++(Y.map sing++B))=A++(yk false Y++B)
 | [],X,Z,A,B,h=>rfl
 | c::Y,X,Z,A,B,h=>by
  have hg:(X++(c::Y++Z)).getD X.length 0=c:=sA X (Y++Z) c
  have hf:fcs (X++(c::Y++Z)) (Y.length+1) X.length=if casd c=true then some X.length else fcs (X++(c::Y++Z)) Y.length (X.length+1):=by
   show (if casd ((X++(c::Y++Z)).getD X.length 0)=true then _ else _)=_
   rw [hg]
  cases hc:casd c with
  | true =>
   rw [hc,if_pos rfl] at hf
   unfold jq
   rw [List.length_cons,hf]
   simp only
   rw [hg,show X.length+(Y.length+1)-(X.length+1)=Y.length by exact o252 _ _]
   have e:=qU Y (X++[c]) Z (A++[ttl c]) B (by simp [h])
   simp only [List.length_append,List.length_singleton,List.append_assoc,List.cons_append,List.nil_append] at e
   rw [show (c::Y).map sing++B=sing c::(Y.map sing++B) from rfl,qT _ _ _ _ h,List.cons_append,e]
   unfold yk
   rw [hc,uA];rfl
  | false =>
   rw [hc,if_neg (by decide)] at hf
   have ih:=mv Y (X++[c]) Z (A++[[c]]) B (by simp [h])
   unfold jq at ih ⊢
   simp only [List.length_append,List.length_singleton,List.append_assoc,List.cons_append,List.nil_append] at ih
   rw [List.length_cons,hf,show X.length+(Y.length+1)=X.length+1+Y.length by exact o220 _ _]
   rw [show (c::Y).map sing++B=[c]::(Y.map sing++B) from rfl,List.cons_append,ih]
   have e2:yk false (c::Y)=[c]::yk false Y:=by
    show (if casd c=true then _ else _)=_
    rw [hc,if_neg (by decide)]
   rw [e2];rfl
theorem jr {text:List Int} {F:List (List Int)} {lo hi:Nat} (h:lo<=hi):lG text F (lo,hi)=jq text (hi-lo) lo F:=by
 unfold lG jq
 simp only
 rw [show lo+(hi-lo)=hi by exact o234 _ _ h]
 try (generalize fcs text (hi-lo) lo=o;cases o <;> rfl)
theorem qV:∀ {r:List Nat} {b m:Nat},(b::r).Pairwise (·<·)->(b::r).getLast?=some m->b<=m
 | [],b,m,hp,hl=>by simp at hl;exact o199 _ _ hl
 | c::r,b,m,hp,hl=>by
  rw [List.getLast?_cons_cons] at hl
  have h1:=qV (List.pairwise_cons.mp hp).2 hl
  have h2:=(List.pairwise_cons.mp hp).1 c List.mem_cons_self
  exact o253 _ _ _ h2 h1
theorem tiles (text:List Int):∀ (r:List Nat) (a:Nat) (A:List (List Int)),A.length=a->(a::r).Pairwise (·<·)->(a::r).getLast?=some text.length ->
  ((a::r).zip r).foldl (lG text) (A++(text.drop a).map sing)=A++((a::r).zip r).flatMap fun e=>yk false (cut text e)
 | [],a,A,hA,hp,hl=>by
  simp only [List.getLast?_singleton,Option.some.injEq] at hl
  rw [List.drop_of_length_le (o230 _ _ hl)];simp
 | b::r,a,A,hA,hp,hl=>by
  have hp':=(List.pairwise_cons.mp hp).2
  have hab:=(List.pairwise_cons.mp hp).1 b List.mem_cons_self
  rw [List.getLast?_cons_cons] at hl
  have hb:=qV hp' hl
  have hd:text.drop a=cut text (a,b)++text.drop b:=by
   have:=(List.take_append_drop (b-a) (text.drop a)).symm
   rw [List.drop_drop,show a+(b-a)=b by exact o254 _ _ hab] at this
   exact this
  have hcl:(cut text (a,b)).length=b-a:=by
   unfold cut
   rw [List.length_take,List.length_drop];exact o255 _ _ _ hb
  have ht:text=text.take a++(cut text (a,b)++text.drop b):=by
   rw [← hd,List.take_append_drop]
  have htl:(text.take a).length=a:=by rw [List.length_take];exact o256 _ _ _ hab hb
  rw [List.zip_cons_cons,List.foldl_cons,List.flatMap_cons]
  have e:=mv (cut text (a,b)) (text.take a) (text.drop b) A ((text.drop b).map sing) (by rw [htl];exact hA)
  rw [← ht,hcl,htl] at e
  rw [jr (o257 _ _ hab),hd,List.map_append,e,← List.append_assoc]
  rw [tiles text r b (A++yk false (cut text (a,b))) (by rw [List.length_append,yi,hcl];exact o258 _ _ _ hA hab) hp' hl,List.append_assoc]
theorem uB {row:List Str} {pic:Nat->Bool} (h:0<row.length):∃ mid,bnd row pic=0::(mid++[row.length])/\(∀ w∈mid,0<w/\w<row.length):=by
 refine (z0 (((List.range (row.length-1)).map Nat.succ).filter fun i=>rule row pic (i:Nat)) (?_) (fun w hw=>?_))
 ·unfold bnd
  have h0:rule row pic ((0:Nat):Int)=true:=by rw [show ((0:Nat):Int)=0 from rfl,y5];simp [h]
  have hL:rule row pic ((row.length:Nat):Int)=true:=by rw [xw (Nat.le_refl _)];simp [h]
  have e:List.range row.length=0::(List.range (row.length-1)).map Nat.succ:=by
   rw [← List.range_succ_eq_map];congr 1;exact o259 _ h
  rw [List.range_succ,e,List.cons_append,List.filter_cons_of_pos (by exact h0),List.filter_append,List.filter_cons_of_pos (by exact hL)]
  rfl
 ·have:=(List.mem_filter.mp hw).1
  refine za (List.mem_map.mp this) ?_;intro i hi q309;obtain rfl:=q309
  have:=List.mem_range.mp hi
  exact o260 _ _ this
theorem sB (row:List Str) (pic:Nat->Bool):(bnd row pic).Pairwise (·<·):=List.pairwise_lt_range.sublist List.filter_sublist
theorem mw:∀ {l:List Nat},l.Pairwise (·<·)->∀ p∈l.zip l.tail,p.1<p.2
 | [],h,p,hp=>by simp at hp
 | [a],h,p,hp=>by simp at hp
 | a::b::r,h,p,hp=>by
  rw [List.tail_cons,List.zip_cons_cons] at hp
  rcases List.mem_cons.mp hp with rfl | hp
  ·exact (List.pairwise_cons.mp h).1 b List.mem_cons_self
  ·exact mw (List.pairwise_cons.mp h).2 p hp
theorem tv (pic:Nat->Bool):bnd [] pic=[]:=by
 unfold bnd
 have:rule [] pic ((0:Nat):Int)=false:=by rw [show ((0:Nat):Int)=0 from rfl,y5];rfl
 show List.filter _ [0]=[]
 rw [List.filter_cons_of_neg (by rw [this];decide)];rfl
theorem lI {row:List Str} {pic:Nat->Bool} (h:0<row.length):sgs row.length (bnd row pic)=(bnd row pic).zip (bnd row pic).tail:=by
 refine za (uB (pic:=pic) h) ?_;intro mid e hm
 have hp:=sB row pic
 have hb:bgs row.length (bnd row pic)=0::mid:=by
  unfold bgs
  rw [e,List.filter_cons_of_neg (by simp),List.filter_append,List.filter_cons_of_neg (by simp),List.filter_nil,List.append_nil,List.filter_eq_self.mpr]
  intro w hw
  obtain ⟨h1,h2⟩:=hm w hw
  simp [h1,h2]
 unfold sgs
 rw [hb,List.tail_cons]
 have hz:(bnd row pic).zip (bnd row pic).tail=(0::mid).zip (mid++[row.length]):=by
  rw [e,List.tail_cons]
  have:=List.zip_append (l₁:=0::mid) (r₁:=[row.length]) (l₂:=mid++[row.length]) (r₂:=[]) (by simp)
  rw [List.append_nil] at this
  rw [← List.cons_append,this];simp
 rw [hz,List.filter_eq_self.mpr]
 intro p hp'
 have:=mw hp p (by rw [hz];exact hp')
 simpa using this
theorem oI {text:List Int} {row:List Str} {pic:Nat->Bool} (hl:row.length=text.length):ptit text (sgs text.length (bnd row pic))=pcs text (bnd row pic):=by
 by_cases h:0<row.length
 ·rw [← hl,lI h]
  refine za (uB (pic:=pic) h) ?_;intro mid e hm
  have hp:=sB row pic
  unfold ptit pcs
  rw [e] at hp ⊢
  have:=tiles text (mid++[row.length]) 0 [] rfl hp (by rw [← List.cons_append,List.getLast?_append];simp [hl])
  simp only [List.nil_append,List.drop_zero] at this
  exact this
 ·have h0:row=[]:=List.length_eq_zero_iff.mp (o261 _ h)
  subst h0
  have h1:text=[]:=List.length_eq_zero_iff.mp (by simpa using hl.symm)
  subst h1
  rw [tv];rfl
theorem wD (row:List Str) (pic:Nat->Bool):∀ i,pbegin row pic i=pbegin' row pic i
 | 0=>rfl
 | i+1=>by unfold pbegin pbegin';rw [wD row pic i]
theorem sC (row:List Str) (pic:Nat->Bool):∀ f j,pendl row pic f j=pendl' row pic f j
 | 0,j=>rfl
 | f+1,j=>by unfold pendl pendl';rw [sC row pic f (j+1)]
theorem sD {row:List Str} {pic:Nat->Bool} {i:Nat} (h:i<=row.length):(bnd row pic).filter (fun j=>decide (j<=i))=(List.range (i+1)).filter fun j=>rule row pic (j:Nat):=by
 unfold bnd
 have:List.range (row.length+1)=List.range (i+1)++List.range' (i+1) (row.length-i):=by
  rw [List.range_eq_range',List.range_eq_range']
  have:=List.range'_append_1 (s:=0) (m:=i+1) (n:=row.length-i)
  rw [Nat.zero_add] at this
  rw [this];congr 1;exact o262 _ _ h
 have A:((List.range (i+1)).filter fun j=>rule row pic (j:Nat)).filter (fun j=>decide (j<=i))=(List.range (i+1)).filter fun j=>rule row pic (j:Nat):=List.filter_eq_self.mpr fun j hj=>by
  have:=List.mem_range.mp ((List.mem_filter.mp hj).1)
  simp;exact o263 _ _ this
 have B:((List.range' (i+1) (row.length-i)).filter fun j=>rule row pic (j:Nat)).filter (fun j=>decide (j<=i))=[]:=List.filter_eq_nil_iff.mpr fun j hj=>by
  have:=(List.mem_range'_1.mp ((List.mem_filter.mp hj).1)).1
  simp;exact o175 _ _ this
 rw [this,List.filter_append,List.filter_append,A,B,List.append_nil]
theorem sE {row:List Str} {pic:Nat->Bool} {i:Nat} (h:i<=row.length):(bnd row pic).filter (fun j=>decide (i<j))=(List.range' (i+1) (row.length-i)).filter fun j=>rule row pic (j:Nat):=by
 unfold bnd
 have:List.range (row.length+1)=List.range (i+1)++List.range' (i+1) (row.length-i):=by
  rw [List.range_eq_range',List.range_eq_range']
  have:=List.range'_append_1 (s:=0) (m:=i+1) (n:=row.length-i)
  rw [Nat.zero_add] at this
  rw [this];congr 1;exact o262 _ _ h
 have A:((List.range (i+1)).filter fun j=>rule row pic (j:Nat)).filter (fun j=>decide (i<j))=[]:=List.filter_eq_nil_iff.mpr fun j hj=>by
  have:=List.mem_range.mp ((List.mem_filter.mp hj).1)
  simp;exact o263 _ _ this
 have B:((List.range' (i+1) (row.length-i)).filter fun j=>rule row pic (j:Nat)).filter (fun j=>decide (i<j))=(List.range' (i+1) (row.length-i)).filter fun j=>rule row pic (j:Nat):=List.filter_eq_self.mpr fun j hj=>by
  have:=(List.mem_range'_1.mp ((List.mem_filter.mp hj).1)).1
  simp;exact o175 _ _ this
 rw [this,List.filter_append,List.filter_append,A,B,List.nil_append]
theorem qW {row:List Str} {pic:Nat->Bool} {i:Nat} (hn:0<row.length) (h:i<=row.length):((bnd row pic).filter fun j=>decide (j<=i)).getLast?=some (pbegin row pic i):=by
 rw [sD h,wD];exact xG hn i
theorem qX {row:List Str} {pic:Nat->Bool} {i:Nat} (hn:0<row.length) (h:i<row.length):((bnd row pic).filter fun j=>decide (i<j)).head?=some (pend row pic i):=by
 unfold pend
 rw [sE (o257 _ _ h),if_neg (o264 _ _ h),sC]
 have:=so (pic:=pic) hn (row.length+1) (i+1) (o235 _ _ h) (o265 _ _)
 rw [show row.length+1-(i+1)=row.length-i by exact o251 _ _] at this
 exact this
theorem oJ {row:List Str} {pic:Nat->Bool} {i:Nat} (h:i=row.length):((bnd row pic).filter fun j=>decide (i<j))=[]:=by
 rw [sE (o199 _ _ h),h,Nat.sub_self];rfl
theorem lJ {row:List Str} {pic:Nat->Bool} (hn:0<row.length):∃ pre,bnd row pic=pre++[pbegin row pic (row.length-1),row.length]:=by
 have h1:=sD (row:=row) (pic:=pic) (i:=row.length-1) (o266 _)
 have h2:=xG (pic:=pic) hn (row.length-1)
 rw [show row.length-1+1=row.length by exact o267 _ hn] at h1 h2
 obtain ⟨pre,e⟩:=List.getLast?_eq_some_iff.mp h2
 refine ⟨pre,?_⟩
 have hL:rule row pic ((row.length:Nat):Int)=true:=by rw [xw (Nat.le_refl _)];simp [hn]
 unfold bnd
 rw [List.range_succ,List.filter_append,e,List.filter_cons_of_pos (by exact hL),wD];simp
theorem qY {row:List Str} {pic:Nat->Bool} (hn:0<row.length):pend row pic (row.length-1)=row.length:=by
 unfold pend
 rw [if_neg (o268 _ hn),show row.length-1+1=row.length by exact o267 _ hn]
 show (if row.length<row.length/\_ then _ else row.length)=_
 rw [if_neg (o269 _ _)]
theorem tA:∀ (L:List (Bool × Int)) (b:Bool),(∀ k∈(trn b L).flatten,k∈LET∨k∈L.map (·.2))/\(trn b L).flatten.length<=2*L.length
 | [],b=>by simp [trn]
 | (f,c)::r,b=>by
  have hm:∀ {k:Int} {b':Bool},k∈(trn b' r).flatten->k∈LET∨k∈((f,c)::r).map (·.2):=fun {k b'} hk=>(tA r b').1 k hk |>.imp id fun h=>List.mem_cons_of_mem _ h
  have hl:∀ b',(trn b' r).flatten.length<=2*r.length:=fun b'=>(tA r b').2
  have ht:trn b ((f,c)::r)=if casd c=true then (if (b&&!f)=true then [low c] else ttl c)::trn true r else [c]::trn (b&&!f) r:=rfl
  rw [ht]
  by_cases h:casd c=true
  ·rw [if_pos h]
   have key:(∀ k∈(if (b&&!f)=true then [low c] else ttl c),k∈LET)/\(if (b&&!f)=true then [low c] else ttl c).length<=2:=by
    refine yX (P:=fun c=>(∀ k∈(if (b&&!f)=true then [low c] else ttl c),k∈LET)/\(if (b&&!f)=true then [low c] else ttl c).length<=2) h ?_ ?_ ?_ ?_ ?_ ?_ ?_ ?_ ?_ ?_ <;> (cases b <;> cases f <;> decide)
   refine ⟨fun k hk=>?_,?_⟩
   ·rw [List.flatten_cons,List.mem_append] at hk
    rcases hk with hk | hk
    ·exact .inl (key.1 k hk)
    ·exact hm hk
   ·rw [List.flatten_cons,List.length_append,List.length_cons]
    have k1:=hl true
    have k2:=key.2
    exact o270 _ _ _ _ key k1
  ·rw [if_neg h]
   refine ⟨fun k hk=>?_,?_⟩
   ·rw [List.flatten_cons,List.mem_append] at hk
    rcases hk with hk | hk
    ·rw [List.mem_singleton] at hk;subst hk;exact .inr (by simp)
    ·exact hm hk
   ·rw [List.flatten_cons,List.length_append,List.length_cons]
    have k1:=hl (b&&!f)
    simp only [List.length_cons,List.length_nil]
    exact o271 _ _ k1

section
variable {y:CW} {n:Nat} {σ:Sto} {Q:CV->Sto->Prop}
theorem yc {a:Int} (h:a.natAbs<2 ^ 64):Builtin.Int.intBits a<=64:=by
 unfold Builtin.Int.intBits
 split
 ·exact Nat.zero_le _
 ·rename_i h0
  have h0':a.natAbs≠0:=by simpa using h0
  exact (Nat.log2_lt h0').mpr h
theorem zG:∀ xs:List Int,wN (xs.map .int)=some (xs.map PyData.int)
 | []=>rfl
 | x::xs=>congrArg (Option.map (PyData.int x::·)) (zG xs)
theorem zo {a:Addr} {xs:List CV} {ds:List PyData} (h:σ a=some (.list xs)) (e:wN xs=some ds):wl σ (.ref a)=some (.list ds) :=
 Option.bind_eq_some_iff.mpr ⟨_,h,Option.map_eq_some_iff.mpr ⟨ds,e,rfl⟩⟩
theorem xg:∀ xs:List Int,PyData.canLayAll0 (xs.map PyData.int)=true
 | []=>by simp [PyData.canLayAll0]
 | x::xs=>by simp [PyData.canLayAll0,PyData.canLay0,xg xs]
theorem xI:∀ xs:List Int,PyData.depthAll (xs.map PyData.int)=0
 | []=>by simp [PyData.depthAll]
 | x::xs=>by simp [PyData.depthAll,PyData.depth,xI xs]
theorem zU (xs:List Int):SeqAt.shaped (.list (xs.map PyData.int))=true:=by
 unfold SeqAt.shaped
 simp [PyData.canLay0,xg,PyData.depth,xI]
structure DeckAt (σ:Sto) (dk ca:Addr) (T:Nat):Prop where
 dk:∃ mixed turn ep,σ dk=some (.sdict [("cells",.ref ca),("mixed",.int mixed),("turn",.int turn)] ep)/\0<=turn/\turn<=T
 ca:∃ cells:List Int,σ ca=some (.list (cells.map .int))/\cells.length<=100
noncomputable def Bar (dk ca:Addr) (σ σ':Sto):Prop:=∀ b co,b≠dk->b≠ca->σ b=some co->σ' b=some co
theorem Bar.refl {dk ca:Addr}:Bar dk ca σ σ:=fun _ _ _ _ e=>e
theorem Bar.trans {dk ca:Addr} {σ₁ σ₂:Sto} (x:Bar dk ca σ σ₁) (y:Bar dk ca σ₁ σ₂):Bar dk ca σ σ₂:=fun b co h1 h2 e=>y b co h1 h2 (x b co h1 h2 e)
theorem Bar.same {dk ca:Addr} {σ':Sto} (s:Same [] σ σ'):Bar dk ca σ σ':=fun b co _ _ e=>s b co (by simp) e
theorem Bar.dk {dk ca:Addr} {co:CO} {σ₁:Sto} (x:Bar dk ca σ σ₁):Bar dk ca σ (upd σ₁ dk co):=fun b co' h1 h2 e=>zn h1 (x b co' h1 h2 e)
theorem Bar.ca {dk ca:Addr} {co:CO} {σ₁:Sto} (x:Bar dk ca σ σ₁):Bar dk ca σ (upd σ₁ ca co):=fun b co' h1 h2 e=>zn h2 (x b co' h1 h2 e)
theorem Bar.new {dk ca a:Addr} {co:CO} {σ₁:Sto} (x:Bar dk ca σ σ₁) (n:σ₁ a=none):Bar dk ca σ (upd σ₁ a co):=fun b co' h1 h2 e=>zk (x b co' h1 h2 e) n
theorem DeckAt.ne {dk ca:Addr} {T:Nat} (D:DeckAt σ dk ca T):dk≠ca:=by
 refine yd (D.dk) ?_;intro m t ep h _
 refine za (D.ca) ?_;intro cs h' _
 rintro rfl
 rw [h] at h';cases h'
theorem DeckAt.same {dk ca:Addr} {T:Nat} {σ':Sto} (D:DeckAt σ dk ca T) (s:Same [] σ σ'):DeckAt σ' dk ca T:=by
 obtain ⟨⟨m,t,ep,h,r⟩,⟨cs,h',r'⟩⟩:=D
 exact ⟨(xM m t ep (s _ _ (by simp) h) r),(z0 cs (s _ _ (by simp) h') r')⟩
theorem qZ (a b d e:CV):stor [(("cells":Str),a),("mixed",b),("turn",d)] "turn" e=[(("cells":Str),a),("mixed",b),("turn",e)]:=by kernel_rfl
theorem vR {dk ca:Addr} {T:Nat} {below:Int} (D:DeckAt σ dk ca T) (hT:T<=900) (hb:0<below) (hb':below<=1000)
  (h:∀ σ' v,DeckAt σ' dk ca (T+1)->Bar dk ca σ σ'->0<=v->v<below->Q (.int v) σ'):OCd y.c (n+1) [.ref dk,.int below] (.ref 475) Q σ:=by
 refine wfD (fa:=475) rfl (by kernel_rfl) _ (zq (bd2 fun v w=>rfl)) (by kernel_rfl) fun L=>?_
 have hne:=D.ne
 obtain ⟨⟨mixed,turn,ep,hdk,ht0,htT⟩,⟨cells,hca,hcl⟩⟩:=D
 fail "g"
 fail "n";refine wP (fun _ _=>rfl) hdk (by rfl) ?_
 fail "g"
 refine jE hdk (by simp) fun ep1=>?_
 rw [qZ]
 have hfm:∀ x:Int,0<=x.fmod below/\x.fmod below<below:=fun x=>⟨Int.fmod_nonneg_of_pos _ hb,Int.fmod_lt_of_pos _ hb⟩
 generalize hs1:upd σ dk _=σ1
 have hdk1:σ1 dk=some (.sdict [("cells",.ref ca),("mixed",.int mixed),("turn",.int (turn+1))] ep1):=by rw [← hs1];exact zb _ _ _
 have hca1:σ1 ca=some (.list (cells.map .int)):=by rw [← hs1];exact zn (Ne.symm hne) hca
 have br1:Bar dk ca σ σ1:=by rw [← hs1];exact Bar.refl.dk
 clear hs1
 fail "g"
 fail "n";refine wP (fun _ _=>rfl) hdk1 (by rfl) ?_
 fail "g"
 fail "n";refine wP (fun _ _=>rfl) hdk1 (by rfl) ?_
 fail "n";refine lS (.of_left (yc (by decide))) ?_
 fail "g"
 fail "n";refine wP (fun _ _=>rfl) hdk1 (by rfl) ?_
 fail "n";refine lS (.of_right (yc (o438 _ _ ht0 htT hT))) ?_
 fail "g"
 generalize hF0:mixed+61613*(turn+1)*(turn+1)=F0
 clear hF0
 fail "n";refine wt (fun ρ0 σ2=>∃ F,ρ0=([("below",.int below),("figure",.int F)]:Loc)/\DeckAt σ2 dk ca (T+1)/\Bar dk ca σ σ2) ?_ ?_
 ·fail "g"
  fail "n";refine wP (fun _ _=>rfl) hdk1 (by rfl) ?_
  fail "g"
  refine ⟨by fail "t",fun d nd=>?_⟩
  have hca2:upd σ1 d (CO.list []) ca=some (.list (cells.map .int)):=zk hca1 nd
  have hdk2:upd σ1 d (CO.list []) dk=some (.sdict [("cells",.ref ca),("mixed",.int mixed),("turn",.int (turn+1))] ep1):=zk hdk1 nd
  have br2:Bar dk ca σ (upd σ1 d (CO.list [])):=br1.new nd
  have hnew:upd σ1 d (CO.list []) d=some (.list []):=zb _ _ _
  generalize upd σ1 d (CO.list [])=σ2 at *
  fail "n";refine oNe (da:=.list (cells.map PyData.int)) (db:=.list []) (zo hca2 (zG _)) (zo hnew rfl) (zU _) rfl ?_
  fail "g"
  have hv:(PyData.list (cells.map PyData.int)).eqv (.list [])=cells.isEmpty:=by cases cells <;> simp [PyData.eqv,PyData.eqvAll]
  rw [hv]
  rcases List.eq_nil_or_concat cells with rfl | ⟨init,last,rfl⟩
  ·fail "g"
   exact (z0 ([("below",.int below),("figure",.int F0)]) (⟨rfl,rfl,trivial⟩) (zt F0 rfl (⟨(yn _ _ _ hdk2 (o439 _ ht0) (o440 _ _ htT)),(z0 _ hca2 hcl)⟩) br2))
  ·refine Br.pos (by simp) ?_
   have hca3:σ2 ca=some (.list (init.map .int++[.int last])):=by rw [hca2];simp
   have hcl':init.length<=99:=by simp at hcl;exact o441 _ hcl
   fail "g"
   fail "n";refine wP (fun _ _=>rfl) hdk2 (by rfl) ?_
   refine MethTo.of (mW hca3) (zP) ?_
   fail "n";refine gK hca3 ?_
   fail "g"
   have hca4:upd σ2 ca (CO.list (init.map .int)) ca=some (.list (init.map .int)):=zb _ _ _
   have hdk4:upd σ2 ca (CO.list (init.map .int)) dk=some (.sdict [("cells",.ref ca),("mixed",.int mixed),("turn",.int (turn+1))] ep1):=zn hne hdk2
   have br4:Bar dk ca σ (upd σ2 ca (CO.list (init.map .int))):=br2.ca
   generalize upd σ2 ca (CO.list (init.map .int))=σ4 at *
   fail "if"
   fail "g"
   by_cases hbig:1000000<=last
   ·first | refine Br.yes hbig ?_ | refine Br.eqT hbig ?_ | refine Br.zT hbig ?_ | refine Br.pos (by simpa using hbig) ?_
    fail "g"
    fail "n";refine wP (fun _ _=>rfl) hdk4 (by rfl) ?_
    refine MethTo.of (zA hca4) (zP) ?_
    fail "g"
    fail "n";refine jZ (o442 _ hb) (PyProof.noPylong_small (o443 _ hb hb')) ?_
    fail "g"
    fail "n";refine y0 hca4 (by simp;exact o444 _ hcl') ?_
    refine ⟨rfl,?_⟩
    fail "g"
    fail "n";refine qf (o442 _ hb) ?_
    obtain ⟨q1,q2⟩:=hfm last
    refine h _ _ ⟨(yn _ _ _ (zn hne hdk4) (o439 _ ht0) (o440 _ _ htT)),(z0 (init++[last.fdiv below]) (by rw [zb];simp) (by simp;exact o441 _ hcl'))⟩ br4.ca q1 q2
   ·first | refine Br.no hbig ?_ | refine Br.eqF hbig ?_ | refine Br.zF hbig ?_ | refine Br.nay (by simpa using hbig) ?_
    fail "g"
    fail "n";refine qf (by decide) ?_
    fail "g"
    exact (z0 ([("below",.int below),("figure",.int (F0+last.fmod 2147483563))]) (⟨rfl,rfl,trivial⟩) (zt _ rfl (⟨(yn _ _ _ hdk4 (o439 _ ht0) (o440 _ _ htT)),(z0 _ hca4 (o445 _ hcl'))⟩) br4))
 ·intro ρ0 σ2 z1;refine zm (z1) ?_;intro F q384 D2 br2;obtain rfl:=q384
  fail "g"
  fail "n";refine qf (by decide) ?_
  fail "g"
  fail "n";refine lS (.of_right (yc (by decide))) ?_
  fail "g"
  fail "n";refine qf (by decide) ?_
  have b1:0<=((F.fmod 2147483629)*40692).fmod 2147483647/\((F.fmod 2147483629)*40692).fmod 2147483647<2147483647:=⟨Int.fmod_nonneg_of_pos _ (by decide),Int.fmod_lt_of_pos _ (by decide)⟩
  generalize ((F.fmod 2147483629)*40692).fmod 2147483647=F1 at *
  fail "g"
  fail "n";refine lS (.of_left (yc (o446 _ b1))) ?_
  fail "g"
  fail "n";refine qf (by decide) ?_
  generalize (F1*F1+1699).fmod 2147483587=F2
  fail "g"
  fail "n";refine lS (.of_right (yc (by decide))) ?_
  fail "g"
  fail "n";refine qf (by decide) ?_
  fail "g"
  fail "n";refine jZ (by decide) (PyProof.noPylong_small (by decide)) ?_
  fail "g"
  fail "n";refine qf (o442 _ hb) ?_
  obtain ⟨q1,q2⟩:=hfm (((F2*39373).fmod 2147483579).fdiv 64)
  exact h _ _ D2 br2 q1 q2
theorem p8 {dk ca sa:Addr} {T:Nat} {xs:List CV} (D:DeckAt σ dk ca T) (hT:T<=900) (hx:σ sa=some (.list xs)) (h1:sa≠dk) (h2:sa≠ca) (h3:0<xs.length) (h4:xs.length<=1000)
  (h:∀ σ' v,DeckAt σ' dk ca (T+1)->Bar dk ca σ σ'->v∈xs->Q v σ'):OCd y.c (n+2) [.ref dk,.ref sa] (.ref 482) Q σ:=by
 refine wfD (fa:=482) rfl (by kernel_rfl) _ (zq (bd2 fun v w=>rfl)) (by kernel_rfl) fun L=>?_
 fail "g"
 fail "n";refine xR hx ?_
 fail "g"
 fail "n";refine (vR D hT (o447 _ h3) (o448 _ h4) fun σ' v D' br h0 hlt=>?_).ow
 have hi:v.toNat<xs.length:=by exact o449 _ _ h3 hlt
 fail "n";refine zD (fun _ _=>rfl) (br _ _ h1 h2 hx) h0 (List.getElem?_eq_getElem hi) ?_
 exact h σ' _ D' br (List.getElem_mem hi)
noncomputable def SORTS:List Str:=["ALetter","Extend","Numeric","MidLetter","MidNum","MidNumLet","Single_Quote","Double_Quote","Format","ExtendNumLet","ZWJ","WSegSpace","CR","LF","Newline","Katakana","Hebrew_Letter","Regional_Indicator","Other"]
theorem oK (h:∀ d,σ d=none->Q (.ref d) (upd σ d (.list (SORTS.map .str)))):OCd y.c (n+1) [] (.ref 489) Q σ:=by
 refine wfD (fa:=489) rfl (by kernel_rfl) [] (zq fun h vals V=>(z0 ([]) (?_) rfl)) (by kernel_rfl) fun L=>?_
 ·obtain rfl:=VRs.nil_iff.mp V;rfl
 fail "g"
 refine ⟨by fail "t",fun d nd=>?_⟩
 exact h d nd
theorem xJ (h:∀ d,σ d=none->Q (.ref d) (upd σ d (.list (LET.map .int)))):OCd y.c (n+1) [] (.ref 496) Q σ:=by
 refine wfD (fa:=496) rfl (by kernel_rfl) [] (zq fun h vals V=>(z0 ([]) (?_) rfl)) (by kernel_rfl) fun L=>?_
 ·obtain rfl:=VRs.nil_iff.mp V;rfl
 fail "g"
 refine ⟨by fail "t",fun d nd=>?_⟩
 exact h d nd
end

section
variable {y:CW} {n:Nat} {σ:Sto} {Q:CV->Sto->Prop}
theorem p9 {α β:Type} (f:α->β) (xs:List α) (lo hi:Option Int):csl (xs.map f) lo hi=(csl xs lo hi).map f:=by
 unfold csl
 rw [List.length_map,← List.map_drop,← List.map_take]
theorem rA {α:Type} (xs:List α) (lo hi:Option Int):(csl xs lo hi).length<=xs.length:=by
 unfold csl
 exact Nat.le_trans (List.length_take_le' _ _) (by simp)
theorem lK {sc:Addr} {script:List Int} (hsc:sY y.c sc (script.map .int)) (hl:script.length<=63) (h:∀ σ' dk ca,DeckAt σ' dk ca 0->Same [] σ σ'->σ dk=none->σ ca=none->Q (.ref dk) σ'):OCd y.c (n+1) [.ref sc] (.ref 468) Q σ:=by
 refine wfD (fa:=468) rfl (by kernel_rfl) _ (zq (bd1 fun v=>rfl)) (by kernel_rfl) fun L=>?_
 fail "g"
 fail "n";with_reducible refine' ye (fv:=[]) (cl:=[]) ?ok ?hs ?_
 case ok=>exact ⟨rfl,of_decide_eq_true (by kernel_rfl),rfl,by decide +kernel,fun e he=>absurd he List.not_mem_nil,fun e he=>absurd he List.not_mem_nil⟩
 case hs=>exact fun _=>rfl
 refine wm ?_
 with_reducible refine mX ?_
 fail "g"
 refine (z0 (20) rfl (zj sc _ rfl hsc (fun d nd=>?_)))
 have hcl:=rA script none (some 20)
 rw [p9]
 refine (zj _ _ (zK (zb _ _ _)) (by rw [List.length_map];exact o450 _ _ hcl hl) (zV (fun _=>true) (fun v=>v) (?_) (fun ce nce=>?_)))
 ·intro v hv C
  refine za (List.mem_map.mp hv) ?_;intro k hk q385;obtain rfl:=q385
  fail "g"
  refine ⟨rfl,trivial,vt ⟨rfl,rfl,fun _=>?_⟩⟩
  fail "g"
  fail "n";refine gL ?_
  exact ⟨rfl,rfl⟩
 rw [List.filter_eq_self.mpr (by simp),List.map_id']
 generalize csl script none (some 20)=cs at *
 generalize hs1:upd (upd σ d _) ce _=σ1
 have sm1:Same [] σ σ1:=by rw [← hs1];fail "sm"
 have hce:σ1 ce=some (.list (cs.map .int)):=by rw [← hs1];exact zb _ _ _
 clear hs1
 fail "g"
 refine ⟨by fail "t",(zt _ rfl rfl (?_))⟩
 fail "g"
 fail "n";with_reducible refine' yI (wm ?_) ?hs1
 case hs1=>exact fun _=>rfl
 fail "g"
 refine ⟨_,_,zK hce,fun xs ρ' σ'=>∃ R m,xs=R.map CV.int/\ρ'=([("cells",.ref ce),("mixed",.int m)]:Loc)/\σ'=σ1,⟨[("cells",.ref ce),("mixed",.int 2201)],⟨rfl,rfl,trivial⟩,cs,2201,rfl,rfl,rfl⟩,?_⟩
 intro T hT;intro xs ρ' σ' z1;refine zg (z1) ?_;intro R m q386 q387 q388;obtain rfl:=q386;obtain rfl:=q387;obtain rfl:=q388
 refine ⟨hce,?_⟩
 cases R with
 | nil =>
  simp only [List.map_nil]
  fail "g"
  refine ⟨rfl,(zj ce _ rfl hce (fun ca nca=>?_))⟩
  fail "g"
  refine (zN ([("cells",.ref ca),("mixed",.int m),("turn",.int 0)]) rfl (by simp) (of_decide_eq_true (by kernel_rfl)) (fun dk ep ndk=>?_))
  fail "g"
  have hne:ca≠dk:=zf (zb _ _ _) ndk
  refine h _ dk ca ⟨(yn m 0 ep (zb _ _ _) (by exact o451) (by exact o452)),(z0 cs.reverse (by rw [zB hne,zb,List.map_reverse]) (by rw [List.length_reverse];exact o453 _ _ hcl hl))⟩ (Same.newU (Same.newU sm1 nca) ndk) (yh (Same.newU sm1 nca) ndk) (yh sm1 nca)
 | cons c R =>
  simp only [List.map_cons]
  fail "g"
  fail "n";refine lS (.of_right (yc (by decide))) ?_
  fail "g"
  fail "n";refine qf (by decide) ?_
  fail "g"
  fail "n";refine qf (by decide) ?_
  fail "g"
  exact (z0 ([("cells",.ref ce),("mixed",.int _)]) (⟨rfl,rfl,trivial⟩) (zj R _ rfl rfl rfl))
noncomputable def wEs (ps:List Str):List (Int × CV):=(LET.map fun k=>(k,CV.str AL))++(List.range ps.length).map fun (i:Nat)=>((768:Int)+(i:Nat),CV.str (ps.getD i ""))
theorem sF (ps:List Str) (s:Str):wEs (ps++[s])=wEs ps++[((768:Int)+(ps.length:Nat),CV.str s)]:=by
 unfold wEs
 rw [List.length_append,List.length_singleton,List.range_succ,List.map_append,List.append_assoc]
 congr 2
 ·refine List.map_congr_left fun i hi=>?_
  have:=List.mem_range.mp hi
  show ((768:Int)+(i:Nat),CV.str ((ps++[s]).getD i ""))=((768:Int)+(i:Nat),CV.str (ps.getD i ""))
  simp only [List.getD_eq_getElem?_getD,List.getElem?_append_left this]
 ·simp
theorem pb (ps:List Str) (h:ps.length<9):((768:Int)+(ps.length:Nat))∉(wEs ps).map (·.1):=by
 unfold wEs
 rw [List.map_append,List.mem_append,List.map_map,List.map_map]
 rintro (h1 | h1)
 ·refine za (List.mem_map.mp h1) ?_;intro k hk e
  simp only [Function.comp] at e
  simp only [LET,List.mem_cons,List.not_mem_nil,or_false] at hk
  exact o454 _ _ hk e
 ·refine za (List.mem_map.mp h1) ?_;intro i hi e
  have:=List.mem_range.mp hi
  simp only [Function.comp] at e
  exact o455 _ _ e this
theorem lL {D R:List Int} {k:Int} (h:LET=D++k::R):k∉(D.map fun k=>(k,CV.str AL)).map (·.1):=by
 have hn:LET.Nodup:=by decide
 rw [h] at hn
 rw [List.map_map]
 intro hm
 refine za (List.mem_map.mp hm) ?_;intro k' hk' e
 simp only [Function.comp] at e
 subst e
 exact (List.nodup_append.mp hn).2.2 _ hk' _ List.mem_cons_self rfl
theorem oL {dk ca:Addr} (D:DeckAt σ dk ca 0) (h:∀ (σ':Sto) (sd pc:Addr) (ps:List Str) (pics:List Int) (ep:Nat),DeckAt σ' dk ca 30->Bar dk ca σ σ'->σ sd=none->σ pc=none->σ' sd=some (.idict (wEs ps) ep)->ps.length=9->(∀ s∈ps,s∈SORTS)->σ' pc=some (.list (pics.map .int))->(∀ k∈pics,768<=k/\k<777)->pics.length<=9->Q (.tup [.ref sd,.ref pc]) σ'):OCd y.c (n+3) [.ref dk] (.ref 503) Q σ:=by
 refine wfD (fa:=503) rfl (by kernel_rfl) _ (zq (bd1 fun v=>rfl)) (by kernel_rfl) fun L=>?_
 fail "g"
 fail "n";with_reducible refine mL fun sd nsd=>?_
 fail "g"
 refine ⟨by fail "t",fun pc npc=>?_⟩
 fail "g"
 refine ⟨by fail "t",(zt _ rfl rfl (?_))⟩
 fail "g"
 fail "n";with_reducible refine' yI (wm ?_) ?hs1
 case hs1=>exact fun _=>rfl
 fail "g"
 fail "n";refine (xJ fun la nla=>?_).ow
 have hdk0:∃ co,σ dk=some co:=by refine yd (D.dk) ?_;intro m t ep h _;exact ⟨_,h⟩
 have hca0:∃ co,σ ca=some co:=by refine za (D.ca) ?_;intro cs h _;exact ⟨_,h⟩
 obtain ⟨cdk,hdk0⟩:=hdk0
 obtain ⟨cca,hca0⟩:=hca0
 have e1:dk≠sd:=zf hdk0 nsd
 have e2:ca≠sd:=zf hca0 nsd
 have npc0:=zi npc
 have e3:dk≠pc:=zf hdk0 npc0.1
 have e4:ca≠pc:=zf hca0 npc0.1
 have e5:pc≠sd:=npc0.2
 have e6:la≠sd:=(zi (zi nla).1).2
 have e7:la≠pc:=(zi nla).2
 generalize hs2:upd (upd (upd σ sd _) pc _) la _=σ2
 have sm2:Same [] σ σ2:=by rw [← hs2];fail "sm"
 have hsd2:σ2 sd=some (.idict [] 0):=by rw [← hs2];fail "l"
 have hpc2:σ2 pc=some (.list []):=by rw [← hs2];fail "l"
 have hla2:σ2 la=some (.list (LET.map .int)):=by rw [← hs2];exact zb _ _ _
 clear hs2
 refine ⟨_,_,zK hla2,fun xs ρ' σ'=>∃ (E R:List Int) (ep:Nat),LET=E++R/\xs=R.map CV.int/\ρ'=([("deck",.ref dk),("sorts",.ref sd),("pictures",.ref pc)]:Loc)/\σ' sd=some (.idict (E.map fun k=>(k,CV.str AL)) ep)/\(∀ b co,b≠sd->σ2 b=some co->σ' b=some co),
  (z0 ([("deck",.ref dk),("sorts",.ref sd),("pictures",.ref pc)]) (⟨rfl,rfl,rfl,trivial⟩) (nE ([]) LET 0 rfl rfl rfl hsd2 (fun _ _ _ e=>e))),?_⟩
 intro T hT;intro xs ρ' σ' z2;refine k9 (z2) ?_;intro E R ep hER q389 q390 hsd hoth;obtain rfl:=q389;obtain rfl:=q390
 refine ⟨hoth _ _ e6 hla2,?_⟩
 cases R with
 | cons k R =>
  simp only [List.map_cons]
  fail "g"
  refine iZ hsd (by have:=congrArg List.length hER;simp [LET] at this;rw [List.length_map];exact o456 _ _ this) fun ep'=>?_
  rw [w3 (lL hER)]
  fail "g"
  exact (z0 ([("deck",.ref dk),("sorts",.ref sd),("pictures",.ref pc)]) (⟨rfl,rfl,rfl,trivial⟩) (nE (E++[k]) R ep' (by rw [hER];simp) rfl rfl (by rw [zb];simp) (fun b co h1 h2=>zn h1 (hoth b co h1 h2))))
 | nil =>
  rw [List.append_nil] at hER
  subst hER
  simp only [List.map_nil]
  fail "g"
  have D3:DeckAt σ' dk ca 0:=by
   have D2:=D.same sm2
   obtain ⟨⟨m,t,ep,h1,r⟩,⟨cs,h2,r2⟩⟩:=D2
   exact ⟨(xM m t ep (hoth _ _ e1 h1) r),(z0 cs (hoth _ _ e2 h2) r2)⟩
  have br3:Bar dk ca σ σ':=fun b co _ _ e=>hoth b co (zf e nsd) (sm2 b co (by simp) e)
  have hpc3:=hoth _ _ e5 hpc2
  fail "n";with_reducible refine' yI ?_ ?hs3
  case hs3=>exact fun _=>rfl
  with_reducible refine' xn ?r1 ?r2 ?r3 ?r4 ?_
  case r1=>kernel_rfl
  case r2=>kernel_rfl
  case r3=>exact rfl
  case r4=>exact rfl
  fail "g"
  refine ⟨768,777,rfl,by decide,by decide,by decide,by decide,fun xs ρ' σ'=>∃ (ps:List Str) (pics:List Int) (ep T:Nat),xs=rng (768+(ps.length:Nat)) 1 (9-ps.length)/\ps.length<=9/\ρ'=([("deck",.ref dk),("sorts",.ref sd),("pictures",.ref pc)]:Loc)/\σ' sd=some (.idict (wEs ps) ep)/\(∀ s∈ps,s∈SORTS) /\
   σ' pc=some (.list (pics.map CV.int))/\(∀ k∈pics,768<=k/\k<768+(ps.length:Nat))/\pics.length<=ps.length/\DeckAt σ' dk ca T/\T<=2*ps.length/\Bar dk ca σ σ',
   (z0 ([("deck",.ref dk),("sorts",.ref sd),("pictures",.ref pc)]) (⟨rfl,rfl,rfl,trivial⟩) (uN ([]) ([]) ep 0 rfl (by simp) rfl (by rw [hsd];rfl) ((fun s hs=>absurd hs List.not_mem_nil)) hpc3 ((fun s hs=>absurd hs List.not_mem_nil)) (Nat.le_refl _) D3 (Nat.zero_le _) br3)),?_⟩
  intro T hT;intro xs ρ' σ4 z3;refine mC (z3) ?_;intro ps pics ep4 T q391 hpl q392 hsd4 hps hpc4 hpk hpn D4 hT br4;obtain rfl:=q391;obtain rfl:=q392
  refine ⟨trivial,?_⟩
  cases hm:9-ps.length with
  | zero =>
   simp only [rng]
   fail "g"
   have hp9:ps.length=9:=by exact o457 _ hm hpl
   refine ⟨by fail "t",?_⟩
   refine h σ4 sd pc ps pics ep4 ⟨?_,D4.ca⟩ br4 nsd npc0.1 hsd4 hp9 hps hpc4 (fun k hk=>by have:=hpk k hk;exact o458 _ _ this hp9) (o459 _ _ hpn hp9)
   refine ym (D4.dk) ?_;intro m t ep h1 h2 h3
   exact (yn m t ep h1 h2 (o460 _ _ _ h3 hT hp9))
  | succ m =>
   simp only [rng]
   fail "g"
   fail "n";refine (oK fun sa nsa=>?_).ow
   fail "g"
   refine yd (id D4.dk) ?_;intro m4 t4 ep4' hdk4 _
   refine za (id D4.ca) ?_;intro cs4 hca4 _
   fail "n";refine (p8 (n:=n) (D4.same (Same.newU Same.refl nsa)) (o461 _ _ hT hpl) (zb _ _ _) (zf hdk4 nsa).symm (zf hca4 nsa).symm (by decide) (by decide) fun σ5 v D5 br5 hv=>?_).ow
   refine za (List.mem_map.mp hv) ?_;intro s hs q393;obtain rfl:=q393
   have hsd5:=br5 _ _ e1.symm e2.symm (zk hsd4 nsa)
   have hpc5:=br5 _ _ e3.symm e4.symm (zk hpc4 nsa)
   have br5':Bar dk ca σ σ5:=fun b co h1 h2 e=>br5 b co h1 h2 (zk (br4 b co h1 h2 e) nsa)
   fail "g"
   refine iZ hsd5 (by unfold wEs;simp [LET];exact o462 _ hpl) fun ep6=>?_
   rw [w3 (pb ps (o463 _ _ hm)),← sF]
   generalize hs6:upd σ5 sd _=σ6
   have hsd6:σ6 sd=some (.idict (wEs (ps++[s])) ep6):=by rw [← hs6];exact zb _ _ _
   have hpc6:σ6 pc=some (.list (pics.map CV.int)):=by rw [← hs6];exact zn e5 hpc5
   have br6:Bar dk ca σ σ6:=fun b co h1 h2 e=>by rw [← hs6];exact zn (zf e nsd) (br5' b co h1 h2 e)
   have D6:DeckAt σ6 dk ca (T+1):=by
    obtain ⟨⟨m,t,ep,h1,r⟩,⟨cs,h2,r2⟩⟩:=D5
    rw [← hs6]
    exact ⟨(xM m t ep (zn e1 h1) r),(z0 cs (zn e2 h2) r2)⟩
   clear hs6
   have hlk:(wEs (ps++[s])).lookup ((768:Int)+(ps.length:Nat))=some (.str s):=by
    have hne:=pb ps (o463 _ _ hm)
    rw [sF,List.lookup_append]
    have:(wEs ps).lookup ((768:Int)+(ps.length:Nat))=none:=by
     rw [List.lookup_eq_none_iff]
     intro p hp
     rw [bne_iff_ne]
     rintro e
     exact hne (List.mem_map.mpr (z0 p hp e.symm))
    rw [this];simp
   have hxs:rng ((768:Int)+(ps.length:Nat)+1) 1 m=rng (768+((ps++[s]).length:Nat)) 1 (9-(ps++[s]).length):=by
    rw [List.length_append,List.length_singleton,show 9-(ps.length+1)=m by exact o464 _ _ hm]
    congr 1
   have hln:(ps++[s]).length=ps.length+1:=by simp
   have hps':∀ s'∈ps++[s],s'∈SORTS:=fun s' hs'=>by
    rcases List.mem_append.mp hs' with h | h
    ·exact hps _ h
    ·rw [List.mem_singleton] at h;subst h;exact hs
   fail "g"
   fail "if"
   fail "g"
   fail "n";refine mI (fun _ _=>rfl) hsd6 hlk ?_
   fail "g"
   refine ⟨by fail "t",?_⟩
   fail "n";refine vm (xs:=["Other","ALetter"]) ?_
   fail "g"
   have skip:∀ σ7 T',DeckAt σ7 dk ca T'->T'<=2*(ps++[s]).length->Bar dk ca σ σ7->σ7 sd=some (.idict (wEs (ps++[s])) ep6)->σ7 pc=some (.list (pics.map CV.int)) ->
     ∃ ρ0,Subs ([("deck",.ref dk),("sorts",.ref sd),("pictures",.ref pc),("code",.int ((768:Int)+(ps.length:Nat)))]:Loc) ρ0/\∃ (ps':List Str) (pics:List Int) (ep T:Nat),rng ((768:Int)+(ps.length:Nat)+1) 1 m=rng (768+(ps'.length:Nat)) 1 (9-ps'.length)/\ps'.length<=9/\ρ0=([("deck",.ref dk),("sorts",.ref sd),("pictures",.ref pc)]:Loc)/\σ7 sd=some (.idict (wEs ps') ep)/\(∀ s∈ps',s∈SORTS) /\
      σ7 pc=some (.list (pics.map CV.int))/\(∀ k∈pics,768<=k/\k<768+(ps'.length:Nat))/\pics.length<=ps'.length/\DeckAt σ7 dk ca T/\T<=2*ps'.length/\Bar dk ca σ σ7:=fun σ7 T' D7 hT7 br7 hsd7 hpc7 =>
    (z0 ([("deck",.ref dk),("sorts",.ref sd),("pictures",.ref pc)]) (⟨rfl,rfl,rfl,trivial⟩) (uN (ps++[s]) pics ep6 T' hxs (o465 _ _ _ hm hln) rfl hsd7 hps' hpc7 (fun k hk=>by have:=hpk k hk;exact o466 _ _ _ this hln) (o467 _ _ _ hpn hln) D7 hT7 br7))
   cases hin:(["Other","ALetter"]:List Str).contains s with
   | false =>
    fail "g"
    exact skip σ6 (T+1) D6 (o468 _ _ _ hT hln) br6 hsd6 hpc6
   | true =>
    fail "g"
    fail "n";refine (vR (n:=n+1) D6 (o469 _ _ hT hpl) (by decide) (by decide) fun σ7 v D7 br7 h0 hlt=>?_).ow
    have hsd7:=br7 _ _ e1.symm e2.symm hsd6
    have hpc7:=br7 _ _ e3.symm e4.symm hpc6
    have br7':=br6.trans br7
    fail "g"
    by_cases hv0:v=0
    ·first | refine Br.yes hv0 ?_ | refine Br.eqT hv0 ?_ | refine Br.zT hv0 ?_ | refine Br.pos (by simpa using hv0) ?_
     fail "g"
     refine MethTo.of (zA hpc7) (zP) ?_
     fail "g"
     fail "n";refine y0 hpc7 (by rw [List.length_map];exact o470 _ _ hpn hpl) ?_
     refine ⟨rfl,?_⟩
     fail "g"
     refine (z0 ([("deck",.ref dk),("sorts",.ref sd),("pictures",.ref pc)]) (⟨rfl,rfl,rfl,trivial⟩) (uN (ps++[s]) (pics++[(768:Int)+(ps.length:Nat)]) ep6 (T+2) hxs (o465 _ _ _ hm hln) rfl (zn e5.symm hsd7) hps' (by rw [zb,List.map_append];rfl) (fun k hk=>?_) (by rw [List.length_append,List.length_singleton];exact o471 _ _ _ hpn hln) (?_) (o472 _ _ _ hT hln) (fun b co h1 h2 e=>zn (zf e npc0.1) (br7' b co h1 h2 e))))
     ·rcases List.mem_append.mp hk with hk | hk
      ·have:=hpk k hk;exact o466 _ _ _ this hln
      ·rw [List.mem_singleton] at hk;subst hk;exact o473 _ _ hln
     ·obtain ⟨⟨m,t,ep,h1,r⟩,⟨cs,h2,r2⟩⟩:=D7
      exact ⟨(xM m t ep (zn e3 h1) r),(z0 cs (zn e4 h2) r2)⟩
    ·first | refine Br.no hv0 ?_ | refine Br.eqF hv0 ?_ | refine Br.zF hv0 ?_ | refine Br.nay (by simpa using hv0) ?_
     fail "g"
     exact skip σ7 (T+1+1) D7 (o474 _ _ _ hT hln) br7' hsd7 hpc7
end

section
variable {y:CW} {n:Nat} {σ:Sto} {Q:CV->Sto->Prop}
noncomputable def gput (G:Str->Int->CV) (name:Str) (f l:Int) (v:CV):Str->Int->CV:=fun nm k=>if nm=name/\f<=k/\k<=l then v else G nm k
theorem xK {G:Str->Int->CV} {name nm:Str} {f l k:Int} {v:CV} (h:nm≠name):gput G name f l v nm k=G nm k:=by
 unfold gput;rw [if_neg (fun z=>h z.1)]
theorem tB {G:Str->Int->CV} {name:Str} {f l k:Int} {v:CV}:gput G name f l v name k=if f<=k/\k<=l then v else G name k:=by
 unfold gput
 by_cases h:f<=k/\k<=l
 ·rw [if_pos ⟨rfl,h⟩,if_pos h]
 ·rw [if_neg (fun z=>h z.2),if_neg h]
noncomputable def okN (G:Str->Int->CV) (nm:Str):Prop:=∀ k,0<=k->simple (G nm k)=true
theorem okN.put {G:Str->Int->CV} {nm name:Str} {f l:Int} {v:CV} (h:okN G nm) (hv:simple v=true):okN (gput G name f l v) nm:=fun k hk=>by
 unfold gput
 split
 ·exact hv
 ·exact h k hk
theorem okN.put' {G:Str->Int->CV} {nm name:Str} {f l:Int} {v:CV} (h:okN G nm) (hne:nm≠name):okN (gput G name f l v) nm:=fun k hk=>by
 rw [xK hne];exact h k hk
theorem okN.like {G:Str->Int->CV} {nm:Str} {f l:Int} {v:CV} {σ':Sto} (h:okN G nm) (hv:simple v=true) (h1:1<=f) (h2:f<=l):LikeOk σ' (G nm (l+1)) v/\LikeOk σ' (G nm (f-1)) v :=
 ⟨.inl ⟨h _ (o135 _ _ h1 h2),hv⟩,.inl ⟨h _ (o281 _ h1),hv⟩⟩
noncomputable def xh:List Int:=LET++[768,769,770,771,772,773,774,775,776]
noncomputable def rJ (ps:List Str) (k:Int):Str:=if 768<=k then ps.getD (k-768).toNat "" else AL
structure LawData (keep σ:Sto) (d sl:Addr) (sf:Int->Str) (pics:List Int):Prop where
 data:∃ N M G,DataIs keep σ d N M G/\N<=1000/\∀ k∈xh,0<=k/\G "wb" k=.str (sf k)/\G "ep" k=.bool (pics.contains k)/\G "cased" k=.bool (casd k)/\G "stc" k=uy sl k/\G "slc" k=.tup []/\G "tc" k=rG k/\G "uc" k=rH k/\G "lc" k=rI k
 sl:σ sl=some (.list [.tup [.tup [.int 83,.int 115],.tup []]])
theorem lM {ps:List Str} {e:Int × CV} (h:e∈wEs ps):1<=e.1/\e.1<=768+ps.length/\∃ s,e.2=.str s:=by
 unfold wEs at h
 rcases List.mem_append.mp h with h | h
 ·refine za (List.mem_map.mp h) ?_;intro k hk q394;obtain rfl:=q394
  simp only [LET,List.mem_cons,List.not_mem_nil,or_false] at hk
  refine ⟨?_,?_,_,rfl⟩ <;> simp only <;> (first | exact o475 _ hk | exact o476 _ _ hk)
 ·refine za (List.mem_map.mp h) ?_;intro i hi q395;obtain rfl:=q395
  have:=List.mem_range.mp hi
  refine ⟨?_,?_,_,rfl⟩ <;> simp only <;> (first | exact o477 _ | exact o478 _ _ this)
theorem mx {ps:List Str} (hp:ps.length=9) {k:Int} (hk:k∈xh):(k,CV.str (rJ ps k))∈wEs ps:=by
 unfold wEs rJ
 by_cases h:768<=k
 ·rw [if_pos h]
  refine List.mem_append_right _ (List.mem_map.mpr (z0 ((k-768).toNat) (List.mem_range.mpr ?_) (?_)))
  ·simp only [xh,LET,List.cons_append,List.nil_append,List.mem_cons,List.not_mem_nil,or_false] at hk
   exact o479 _ _ hk hp
  ·rw [show (768:Int)+((k-768).toNat:Nat)=k by exact o480 _ h]
 ·rw [if_neg h]
  refine List.mem_append_left _ (List.mem_map.mpr (z0 k (?_) rfl))
  simp only [xh,List.mem_append] at hk
  rcases hk with hk | hk
  ·exact hk
  ·simp only [List.mem_cons,List.not_mem_nil,or_false] at hk;exact (o481 _ hk h).elim
theorem vS (ps:List Str):((wEs ps).map (·.1)).Nodup:=by
 unfold wEs
 rw [List.map_append,List.map_map,List.map_map,List.nodup_append]
 refine ⟨by decide,?_,?_⟩
 ·refine List.Pairwise.map _ (fun a b h=>?_) (List.nodup_range (n:=ps.length))
  simp only [Function.comp]
  intro e;apply h;exact o482 _ _ e
 ·intro a ha b hb e
  refine za (List.mem_map.mp ha) ?_;intro k hk q396;obtain rfl:=q396
  refine za (List.mem_map.mp hb) ?_;intro i hi q397;obtain rfl:=q397
  simp only [Function.comp,LET,List.mem_cons,List.not_mem_nil,or_false] at hk e
  exact o454 _ _ hk e
theorem nf {a b:Str} (h:decide (a=b)=false):(a=b)=False:=eq_false (of_decide_eq_false h)
theorem sG:(("wb":Str) = "uc")=False:=nf (by kernel_rfl)
theorem sH:(("wb":Str) = "lc")=False:=nf (by kernel_rfl)
theorem pd:(("wb":Str) = "stc")=False:=nf (by kernel_rfl)
theorem sI:(("wb":Str) = "tc")=False:=nf (by kernel_rfl)
theorem tC:(("wb":Str) = "cased")=False:=nf (by kernel_rfl)
theorem oM:(("wb":Str) = "ep")=False:=nf (by kernel_rfl)
theorem sJ:(("ep":Str) = "uc")=False:=nf (by kernel_rfl)
theorem sK:(("ep":Str) = "lc")=False:=nf (by kernel_rfl)
theorem pf:(("ep":Str) = "stc")=False:=nf (by kernel_rfl)
theorem sL:(("ep":Str) = "tc")=False:=nf (by kernel_rfl)
theorem tD:(("ep":Str) = "cased")=False:=nf (by kernel_rfl)
theorem oN:(("ep":Str) = "wb")=False:=nf (by kernel_rfl)
theorem wF:(("cased":Str) = "uc")=False:=nf (by kernel_rfl)
theorem wG:(("cased":Str) = "lc")=False:=nf (by kernel_rfl)
theorem xV:(("cased":Str) = "stc")=False:=nf (by kernel_rfl)
theorem wH:(("cased":Str) = "tc")=False:=nf (by kernel_rfl)
theorem tE:(("cased":Str) = "wb")=False:=nf (by kernel_rfl)
theorem tF:(("cased":Str) = "ep")=False:=nf (by kernel_rfl)
theorem uC:(("stc":Str) = "uc")=False:=nf (by kernel_rfl)
theorem uE:(("stc":Str) = "lc")=False:=nf (by kernel_rfl)
theorem pg:(("stc":Str) = "tc")=False:=nf (by kernel_rfl)
theorem uF:(("stc":Str) = "wb")=False:=nf (by kernel_rfl)
theorem uG:(("stc":Str) = "ep")=False:=nf (by kernel_rfl)
theorem ph:(("slc":Str) = "uc")=False:=nf (by kernel_rfl)
theorem pi:(("slc":Str) = "lc")=False:=nf (by kernel_rfl)
theorem rB:(("slc":Str) = "stc")=False:=nf (by kernel_rfl)
theorem pj:(("slc":Str) = "tc")=False:=nf (by kernel_rfl)
theorem uH:(("slc":Str) = "cased")=False:=nf (by kernel_rfl)
theorem pk:(("slc":Str) = "wb")=False:=nf (by kernel_rfl)
theorem pn:(("slc":Str) = "ep")=False:=nf (by kernel_rfl)
theorem vT:(("tc":Str) = "uc")=False:=nf (by kernel_rfl)
theorem sM:(("tc":Str) = "lc")=False:=nf (by kernel_rfl)
theorem uI:(("tc":Str) = "stc")=False:=nf (by kernel_rfl)
theorem oO:(("tc":Str) = "wb")=False:=nf (by kernel_rfl)
theorem oP:(("tc":Str) = "ep")=False:=nf (by kernel_rfl)
theorem sN:(("uc":Str) = "lc")=False:=nf (by kernel_rfl)
theorem uJ:(("uc":Str) = "stc")=False:=nf (by kernel_rfl)
theorem oQ:(("uc":Str) = "tc")=False:=nf (by kernel_rfl)
theorem oR:(("uc":Str) = "wb")=False:=nf (by kernel_rfl)
theorem oS:(("uc":Str) = "ep")=False:=nf (by kernel_rfl)
theorem w9:(("lc":Str) = "uc")=False:=nf (by kernel_rfl)
theorem uK:(("lc":Str) = "stc")=False:=nf (by kernel_rfl)
theorem sO:(("lc":Str) = "tc")=False:=nf (by kernel_rfl)
theorem oU:(("lc":Str) = "wb")=False:=nf (by kernel_rfl)
theorem oV:(("lc":Str) = "ep")=False:=nf (by kernel_rfl)
theorem zR {a b:Str} (h:(a=b)=False):a≠b:=fun e=>by rw [h] at e;exact e
theorem x9 {a b:Str} (h:(a=b)=False):b≠a:=fun e=>zR h e.symm
theorem iU:dflt "ep" = .bool false:=by kernel_rfl
theorem oW:dflt "cased" = .bool false:=by kernel_rfl
theorem my:dflt "stc" = .tup []:=by kernel_rfl
theorem js:dflt "slc" = .tup []:=by kernel_rfl
theorem ju:dflt "tc" = .none:=by kernel_rfl
theorem jv:dflt "uc" = .none:=by kernel_rfl
theorem jw:dflt "lc" = .none:=by kernel_rfl
noncomputable def P3s:List (Int × Int):=[(97,65),(98,66),(115,83)]
noncomputable def g3 (G:Str->Int->CV) (q:Int × Int):Str->Int->CV:=gput (gput G "uc" q.1 q.1 (.int q.2)) "lc" q.2 q.2 (.int q.1)
noncomputable def g4 (G:Str->Int->CV) (sl:Addr):Str->Int->CV:=gput (gput (gput (gput G "stc" 223 223 (.ref sl)) "uc" 454 454 (.int 452)) "tc" 452 454 (.int 453)) "lc" 452 453 (.int 454)
theorem told {G:Str->Int->CV} {sl:Addr} (hd:∀ (nm:Str) k,nm≠"wb"->nm≠"ep"->G nm k=dflt nm) (k:Int) :
  let H:=g4 (P3s.foldl g3 G) sl
  H "wb" k=G "wb" k/\H "ep" k=G "ep" k/\H "cased" k=.bool false/\H "stc" k=uy sl k/\H "slc" k=.tup []/\H "tc" k=rG k/\H "uc" k=rH k/\H "lc" k=rI k:=by
 intro H
 have h1:G "cased" k=.bool false:=(hd _ _ (zR tE) (zR tF)).trans oW
 have h2:G "stc" k=.tup []:=(hd _ _ (zR uF) (zR uG)).trans my
 have h3:G "slc" k=.tup []:=(hd _ _ (zR pk) (zR pn)).trans js
 have h4:G "tc" k=.none:=(hd _ _ (zR oO) (zR oP)).trans ju
 have h5:G "uc" k=.none:=(hd _ _ (zR oR) (zR oS)).trans jv
 have h6:G "lc" k=.none:=(hd _ _ (zR oU) (zR oV)).trans jw
 have hH:H=g4 (g3 (g3 (g3 G (97,65)) (98,66)) (115,83)) sl:=rfl
 rw [hH]
 unfold g4 g3
 simp only [gput,sG,sH,pd,sI,sJ,sK,pf,sL,wF,wG,xV,wH,uC,uE,pg,ph,pi,rB,pj,vT,sM,uI,sN,uJ,oQ,w9,uK,sO,true_and,false_and,if_false,h1,h2,h3,h4,h5,h6]
 unfold uy rG rH rI
 refine ⟨?_,?_,?_,?_⟩
 all_goals (repeat' split)
 all_goals first | rfl | (exfalso;(first | exact o483 _ (by assumption) (by assumption) | exact o484 _ (by assumption) (by assumption) | exact o485 _ (by assumption) (by assumption) | exact o486 _ (by assumption) (by assumption) | exact o487 _ (by assumption) (by assumption) | exact o488 _ (by assumption) (by assumption) | exact o489 _ (by assumption) (by assumption) | exact o490 _ (by assumption) (by assumption) | exact o491 _ (by assumption) (by assumption) | exact o492 _ (by assumption) (by assumption) | exact o493 _ (by assumption) (by assumption) | exact o494 _ (by assumption) (by assumption) | exact o495 _ (by assumption) (by assumption) | exact o496 _ (by assumption) (by assumption) | exact o497 _ (by assumption) (by assumption) | exact o498 _ (by assumption) (by assumption) | exact o499 _ (by assumption) (by assumption) | exact o500 _ (by assumption) (by assumption) | exact o501 _ (by assumption) (by assumption) | exact o502 _ (by assumption) (by assumption) | exact o503 _ (by assumption) (by assumption) | exact o504 _ (by assumption) (by assumption) | exact o505 _ (by assumption) (by assumption) | exact o506 _ (by assumption) (by assumption) | exact o507 _ (by assumption) (by assumption) | exact o508 _ (by assumption) (by assumption) | exact o509 _ (by assumption) (by assumption) | exact o510 _ (by assumption) (by assumption) | exact o511 _ (by assumption) (by assumption) | exact o512 _ (by assumption) (by assumption) | exact o513 _ (by assumption) (by assumption) | exact o514 _ (by assumption) (by assumption) | exact o515 _ (by assumption) (by assumption) | exact o516 _ (by assumption) (by assumption) | exact o517 _ (by assumption) (by assumption) | exact o518 _ (by assumption) (by assumption) | exact o519 _ (by assumption) (by assumption)))
theorem xi {keep:Sto} {d:Addr} {N M:Nat} {G:Str->Int->CV} (D:DataIs keep σ d N M G):yb y.c (.ref d) "put" (.ref 280) σ:=by
 refine x0 (id D) ?_;intro ddx df mp LL DA _
 refine zL (DA.attrs) ?_;intro pr wd hda
 exact zw DA.inst hda (f:=280) (by kernel_rfl) rfl
theorem jx:∀ q∈P3s,1<=q.1/\q.1<=1000/\1<=q.2/\q.2<=1000:=by decide
theorem jy:∀ q∈LET,1<=q/\q<=1000:=by decide
noncomputable def STL:List CV:=[.tup [.tup [.int 83,.int 115],.tup []]]
theorem sP {σ':Sto} {sl:Addr} (h:σ' sl=some (.list STL)) {a:CV} (ha:a=.tup []):LikeOk σ' a (.ref sl) :=
 .inr (.inr ⟨ha,(nD sl _ ([.tuple [.tuple [.int 83,.int 115],.tuple []]]) rfl h (by kernel_rfl) (by kernel_rfl))⟩)
theorem lN {sd pc:Addr} {ps:List Str} {pics:List Int} {ep:Nat} (hsd:σ sd=some (.idict (wEs ps) ep)) (hp:ps.length=9) (hpc:σ pc=some (.list (pics.map .int))) (hpk:∀ k∈pics,768<=k/\k<777) (hpl:pics.length<=9)
  (h:∀ keep σ' d sl,LawData keep σ' d sl (rJ ps) pics->(∀ a co,σ a=some co->keep a=some co)->Same [] σ σ'->Q (.ref d) σ'):OCd y.c (n+5) [.ref sd,.ref pc] (.ref 510) Q σ:=by
 refine wfD (fa:=510) rfl (by kernel_rfl) _ (zq (bd2 fun v w=>rfl)) (by kernel_rfl) fun L=>?_
 fail "g"
 refine oD (n:=n+1) fun d σ1 D1=>?_
 fail "g"
 have hkey:∀ {α:Type} {xs:List α} {k},k∈xs->True:=fun _=>trivial
 clear hkey
 fail "n";with_reducible refine' yI (wm ?_) ?hs1
 case hs1=>exact fun _=>rfl
 fail "g"
 refine ⟨_,_,mN (D1.kept hsd),fun xs ρ' σ'=>∃ (E R:List (Int × CV)) (G:Str->Int->CV),wEs ps=E++R/\xs=R.map (fun e=>CV.int e.1)/\ρ'=([("sorts",.ref sd),("pictures",.ref pc),("data",.ref d)]:Loc)/\DataIs σ σ' d (1+2*E.length) (0+E.length) G /\
   (∀ k,0<=k->∃ x,G "wb" k=.str x)/\(∀ (nm:Str) k,nm≠"wb"->G nm k=dflt nm)/\(∀ e∈E,G "wb" e.1=e.2),
  (z0 ([("sorts",.ref sd),("pictures",.ref pc),("data",.ref d)]) (⟨rfl,rfl,rfl,trivial⟩) (tK ([]) (wEs ps) _ rfl rfl rfl D1 (fun k _=>⟨_,rfl⟩) (fun _ _ _=>rfl) (fun e he=>absurd he List.not_mem_nil))),?_⟩
 intro T hT;intro xs ρ' σ2 z1;refine nF (z1) ?_;intro E R G hER q398 q399 D2 hwb hoth hE;obtain rfl:=q398;obtain rfl:=q399
 refine ⟨D2.kept hsd,?_⟩
 have hEl:E.length+R.length=19:=by have:=congrArg List.length hER;simp [wEs,LET,hp] at this;exact o520 _ _ this
 cases R with
 | cons e R =>
  have he:e∈wEs ps:=by rw [hER];exact List.mem_append_right _ List.mem_cons_self
  refine zh (lM he) ?_;intro b1 b2 q400;obtain ⟨s,hs⟩:=q400
  have hlk:(wEs ps).lookup e.1=some e.2:=by
   have hk:=vS ps
   rw [hER,List.map_append,List.nodup_append] at hk
   rw [hER,List.lookup_append]
   have:E.lookup e.1=none:=by
    rw [List.lookup_eq_none_iff]
    intro p hp
    rw [bne_iff_ne]
    rintro q
    exact hk.2.2 _ (List.mem_map.mpr (z0 p hp rfl)) _ (by rw [List.map_cons];exact List.mem_cons_self) q.symm
   rw [this,Option.none_or]
   exact List.lookup_cons_self (k:=e.1) (b:=e.2)
  simp only [List.map_cons]
  refine x0 (id D2) ?_;intro ddx df mp LL DA _
  refine zL (DA.attrs) ?_;intro pr wd hda
  fail "g"
  refine MethTo.of (zw DA.inst hda (f:=280) (by kernel_rfl) rfl) (zu rfl) ?_
  fail "g"
  fail "n";refine mI (fun _ _=>rfl) (D2.kept hsd) hlk ?_
  fail "g"
  simp only [List.length_cons] at hEl
  fail "n";refine (yF (n:=n) D2 (o521 _) (o522 _ _ hEl) (o523 _ _ hEl) b1 (Int.le_refl _) (o524 _ _ b2 hp) (fun σ' _=>?_) fun σ3 D3=>?_).ow
  ·obtain ⟨x1,h1⟩:=hwb (e.1+1) (o525 _ b1)
   obtain ⟨x2,h2⟩:=hwb (e.1-1) (o281 _ b1)
   rw [hs]
   exact ⟨.inr (.inl (zV _ _ h1 rfl)),.inr (.inl (zV _ _ h2 rfl))⟩
  refine ⟨rfl,?_⟩
  fail "g"
  refine (z0 ([("sorts",.ref sd),("pictures",.ref pc),("data",.ref d)]) (⟨rfl,rfl,rfl,trivial⟩) (tK (E++[e]) R (gput G "wb" e.1 e.1 e.2) (by rw [hER];simp) rfl rfl (?_) (fun k hk=>?_) (fun nm k hne=>?_) (fun e' he'=>?_)))
  ·rw [List.length_append,List.length_singleton,show 1+2*(E.length+1)=1+2*E.length+2 by exact o526 _,show 0+(E.length+1)=0+E.length+1 by exact o527 _]
   exact D3
  ·unfold gput
   split
   ·exact ⟨s,hs⟩
   ·exact hwb k hk
  ·rw [xK hne];exact hoth nm k hne
  ·rw [tB]
   by_cases q:e.1<=e'.1/\e'.1<=e.1
   ·rw [if_pos q]
    rcases List.mem_append.mp he' with h | h
    ·exfalso
     have hk:=vS ps
     rw [hER,List.map_append,List.nodup_append] at hk
     exact hk.2.2 _ (List.mem_map.mpr (z0 e' h rfl)) _ (by rw [List.map_cons];exact List.mem_cons_self) (o528 _ _ q)
    ·rw [List.mem_singleton] at h;rw [h]
   ·rw [if_neg q]
    rcases List.mem_append.mp he' with h | h
    ·exact hE _ h
    ·rw [List.mem_singleton] at h;subst h;exact absurd ⟨Int.le_refl _,Int.le_refl _⟩ q
 | nil =>
  rw [List.append_nil] at hER
  subst hER
  have hwb2:∀ k∈xh,G "wb" k=.str (rJ ps k):=fun k hk=>hE _ (mx hp hk)
  clear hwb hE
  simp only [List.length_nil,Nat.add_zero] at hEl
  rw [hEl] at D2
  simp only [List.map_nil]
  fail "g"
  fail "n";with_reducible refine' yI (wm ?_) ?hs2
  case hs2=>exact fun _=>rfl
  fail "g"
  refine ⟨_,_,zK (D2.kept hpc),fun xs ρ' σ'=>∃ (E R:List Int) (G':Str->Int->CV),pics=E++R/\xs=R.map CV.int/\ρ'=([("data",.ref d)]:Loc)/\DataIs σ σ' d (39+2*E.length) (19+E.length) G' /\
    (∀ k,0<=k->G' "ep" k=.bool (E.contains k))/\(∀ (nm:Str) k,nm≠"ep"->G' nm k=G nm k),
   (z0 ([("data",.ref d)]) (⟨rfl,trivial⟩) (xN ([]) pics _ rfl rfl rfl D2 (fun k _=>(hoth _ _ (zR oN)).trans iU) (fun _ _ _=>rfl))),?_⟩
  intro T hT;intro xs ρ' σ2 z2;refine tJ (z2) ?_;intro E R G' hER q401 q402 D3 hep hoth3;obtain rfl:=q401;obtain rfl:=q402
  refine ⟨D3.kept hpc,?_⟩
  have hEl2:E.length+R.length=pics.length:=by have:=congrArg List.length hER;simp at this;exact o529 _ _ _ this
  cases R with
  | cons k R =>
   have hk:=hpk k (by rw [hER];exact List.mem_append_right _ List.mem_cons_self)
   simp only [List.map_cons]
   refine x0 (id D3) ?_;intro ddx df mp LL DA _
   refine zL (DA.attrs) ?_;intro pr wd hda
   fail "g"
   refine MethTo.of (zw DA.inst hda (f:=280) (by kernel_rfl) rfl) (zu rfl) ?_
   fail "g"
   simp only [List.length_cons] at hEl2
   fail "n";refine (yF (n:=n) D3 (o530 _) (o531 _ _ _ hEl2 hpl) (o532 _ _ _ hEl2 hpl) (o533 _ hk) (Int.le_refl _) (o534 _ hk) (fun σ' _=>okN.like (fun k hk=>by rw [hep k hk];rfl) rfl (o533 _ hk) (Int.le_refl _)) fun σ4 D4=>?_).ow
   refine ⟨rfl,?_⟩
   fail "g"
   refine (z0 ([("data",.ref d)]) (⟨rfl,trivial⟩) (xN (E++[k]) R (gput G' "ep" k k (.bool true)) (by rw [hER];simp) rfl rfl (?_) (fun k' hk'=>?_) (fun nm k' hne=>?_)))
   ·rw [List.length_append,List.length_singleton,show 39+2*(E.length+1)=39+2*E.length+2 by exact o535 _,show 19+(E.length+1)=19+E.length+1 by exact o536 _]
    exact D4
   ·rw [tB]
    by_cases q:k<=k'/\k'<=k
    ·have:k'=k:=by exact o528 _ _ q
     subst this
     rw [if_pos q];simp
    ·rw [if_neg q,hep k' hk']
     have:k'≠k:=fun e=>q (o537 _ _ e)
     simp [this]
   ·rw [xK hne];exact hoth3 nm k' hne
  | nil =>
   rw [List.append_nil] at hER
   subst hER
   simp only [List.length_nil,Nat.add_zero] at hEl2
   have hdf:∀ (nm:Str) k,nm≠"wb"->nm≠"ep"->G' nm k=dflt nm:=fun nm k h1 h2=>(hoth3 nm k h2).trans (hoth nm k h1)
   have hwb3:∀ k∈xh,G' "wb" k=.str (rJ ps k):=fun k hk=>(hoth3 _ _ (zR oM)).trans (hwb2 k hk)
   clear hwb2 hoth hoth3
   have htold:=fun sl=>told (sl:=sl) hdf
   simp only [List.map_nil]
   fail "g"
   fail "n";with_reducible refine' yI (wm ?_) ?hs3
   case hs3=>exact fun _=>rfl
   fail "g"
   refine ⟨by fail "t",?_⟩
   fail "g"
   refine ⟨by fail "t",?_⟩
   fail "g"
   refine ⟨by fail "t",?_⟩
   fail "g"
   refine ⟨by fail "t",?_⟩
   have hN0:39+2*pics.length<=57:=by exact o538 _ hpl
   have hN1:1<=39+2*pics.length:=by exact o530 _
   have hM0:19+pics.length<=28:=by exact o539 _ hpl
   generalize 39+2*pics.length=N0 at *
   generalize 19+pics.length=M0 at *
   have o1:okN G' "uc":=fun k _=>by rw [hdf _ _ (x9 sG) (x9 sJ),jv];rfl
   have o2:okN G' "lc":=fun k _=>by rw [hdf _ _ (x9 sH) (x9 sK),jw];rfl
   have o3:okN G' "tc":=fun k _=>by rw [hdf _ _ (x9 sI) (x9 sL),ju];rfl
   refine ⟨_,_,tT,fun xs ρ' σ'=>∃ (E R:List (Int × Int)),P3s=E++R/\xs=R.map (fun q=>CV.tup [.int q.1,.int q.2])/\ρ'=([("data",.ref d)]:Loc)/\DataIs σ σ' d (N0+4*E.length) (M0+2*E.length) (E.foldl g3 G') /\
     okN (E.foldl g3 G') "uc"/\okN (E.foldl g3 G') "lc"/\okN (E.foldl g3 G') "tc"/\(∀ k,(E.foldl g3 G') "stc" k=.tup []),
    (z0 ([("data",.ref d)]) (⟨rfl,trivial⟩) (k7 ([]) P3s rfl rfl rfl D3 o1 o2 o3 (fun k=>(hdf _ _ (zR uF) (zR uG)).trans my))),?_⟩
   intro T hT;intro xs ρ' σ5 z3;refine k4 (z3) ?_;intro E R hER q403 q404 D5 p1 p2 p3 p4;obtain rfl:=q403;obtain rfl:=q404
   refine ⟨trivial,?_⟩
   have hEl3:E.length+R.length=3:=by have:=congrArg List.length hER;simp [P3s] at this;exact o540 _ _ this
   cases R with
   | cons e R =>
    obtain ⟨small,large⟩:=e
    refine yL (jx (small,large) (by rw [hER];exact List.mem_append_right _ List.mem_cons_self)) ?_;intro b1 b2 b3 b4
    simp only [List.map_cons]
    simp only [List.length_cons] at hEl3
    fail "g"
    refine ⟨_,xi D5,zu rfl,?_⟩
    fail "g"
    fail "n";refine (yF (n:=n) D5 (o541 _ _ hN1) (o542 _ _ _ hEl3 hN0) (o543 _ _ _ hEl3 hM0) b1 (Int.le_refl _) b2 (fun σ' _=>p1.like rfl b1 (Int.le_refl _)) fun σ6 D6=>?_).ow
    refine ⟨rfl,?_⟩
    fail "g"
    refine ⟨_,xi D6,zu rfl,?_⟩
    fail "g"
    fail "n";refine (yF (n:=n) D6 (o544 _ _) (o545 _ _ _ hEl3 hN0) (o546 _ _ _ hEl3 hM0) b3 (Int.le_refl _) b4 (fun σ' _=>(p2.put' (zR w9)).like rfl b3 (Int.le_refl _)) fun σ7 D7=>?_).ow
    refine ⟨rfl,?_⟩
    fail "g"
    refine (z0 ([("data",.ref d)]) (⟨rfl,trivial⟩) (zH (E++[(small,large)]) R (by rw [hER];simp) rfl rfl (?_)))
    rw [List.foldl_append,List.length_append,List.length_singleton,show N0+4*(E.length+1)=N0+4*E.length+2+2 by exact o547 _ _,show M0+2*(E.length+1)=M0+2*E.length+1+1 by exact o548 _ _]
    exact ⟨D7,(p1.put rfl).put' (zR sN),(p2.put' (zR w9)).put rfl,(p3.put' (zR vT)).put' (zR sM),fun k=>by
     show g3 (E.foldl g3 G') (small,large) "stc" k=_
     unfold g3
     rw [xK (zR uE),xK (zR uC)];exact p4 k⟩
   | nil =>
    rw [List.append_nil] at hER
    subst hER
    simp only [List.map_nil]
    rw [show P3s.length=3 from rfl] at D5
    generalize hH0:P3s.foldl g3 G'=H0 at *
    fail "g"
    refine ⟨_,xi D5,zu rfl,?_⟩
    fail "g"
    refine ⟨by fail "t",?_⟩
    fail "g"
    refine ⟨by fail "t",?_⟩
    fail "g"
    refine ⟨by fail "t",?_⟩
    fail "g"
    refine ⟨by fail "t",fun sl nsl=>?_⟩
    fail "g"
    have D8:=D5.protect (co:=CO.list STL) nsl
    have hσsl:σ sl=none:=by
     cases e:σ sl with
     | none=>rfl
     | some co=>have:=D5.kept e;rw [nsl] at this;cases this
    have hk8:∀ a co,σ a=some co->upd σ sl (CO.list STL) a=some co:=fun a co e=>zk e hσsl
    have hksl:upd σ sl (CO.list STL) sl=some (.list STL):=zb _ _ _
    show OW y.c _ VR _ _ _ (upd σ5 sl (CO.list STL))
    generalize upd σ sl (CO.list STL)=keep at *
    generalize upd σ5 sl (CO.list STL)=σ8 at *
    fail "n";refine (yF (n:=n) D8 (o549 _) (o550 _ hN0) (o551 _ hM0) (by decide) (by decide) (by decide) (fun σ' hk=>⟨sP (hk _ _ hksl) (p4 _),sP (hk _ _ hksl) (p4 _)⟩) fun σ9 D9=>?_).ow
    refine ⟨rfl,?_⟩
    fail "g"
    refine ⟨_,xi D9,zu rfl,?_⟩
    fail "g"
    fail "n";refine (yF (n:=n) D9 (o552 _) (o553 _ hN0) (o554 _ hM0) (by decide) (by decide) (by decide) (fun σ' _=>(p1.put' (zR uJ)).like rfl (by decide) (by decide)) fun σ10 D10=>?_).ow
    refine ⟨rfl,?_⟩
    fail "g"
    refine ⟨_,xi D10,zu rfl,?_⟩
    fail "g"
    fail "n";refine (yF (n:=n) D10 (o555 _) (o556 _ hN0) (o557 _ hM0) (by decide) (by decide) (by decide) (fun σ' _=>((p3.put' (zR uI)).put' (zR vT)).like rfl (by decide) (by decide)) fun σ11 D11=>?_).ow
    refine ⟨rfl,?_⟩
    fail "g"
    refine ⟨_,xi D11,zu rfl,?_⟩
    fail "g"
    fail "n";refine (yF (n:=n) D11 (o558 _) (o559 _ hN0) (o560 _ hM0) (by decide) (by decide) (by decide) (fun σ' _=>(((p2.put' (zR uK)).put' (zR w9)).put' (zR sO)).like rfl (by decide) (by decide)) fun σ12 D12=>?_).ow
    refine ⟨rfl,?_⟩
    replace D12:DataIs keep σ12 d (N0+4*3+2+2+2+2) (M0+2*3+1+1+1+1) (g4 H0 sl):=D12
    have htl:=htold sl
    generalize g4 H0 sl=H at *
    fail "g"
    fail "n";with_reducible refine' yI (wm ?_) ?hs4
    case hs4=>exact fun _=>rfl
    fail "g"
    fail "n";refine (xJ fun la nla=>?_).ow
    have D13:=D12.protect (co:=CO.list (LET.map CV.int)) nla
    have nkla:keep la=none:=by
     cases e:keep la with
     | none=>rfl
     | some co=>have:=D12.kept e;rw [nla] at this;cases this
    have hk13:∀ a co,keep a=some co->upd keep la (CO.list (LET.map CV.int)) a=some co:=fun a co e=>zk e nkla
    have hkla:upd keep la (CO.list (LET.map CV.int)) la=some (.list (LET.map CV.int)):=zb _ _ _
    generalize upd keep la (CO.list (LET.map CV.int))=keep2 at *
    generalize upd σ12 la (CO.list (LET.map CV.int))=σ13 at *
    refine ⟨_,_,zK (D13.kept hkla),fun xs ρ' σ'=>∃ (E R:List Int) (G'':Str->Int->CV),LET=E++R/\xs=R.map CV.int/\ρ'=([("data",.ref d)]:Loc)/\DataIs keep2 σ' d (N0+20+2*E.length) (M0+10+E.length) G'' /\
      (∀ k,0<=k->G'' "cased" k=.bool (E.contains k))/\(∀ (nm:Str) k,nm≠"cased"->G'' nm k=H nm k),
     (z0 ([("data",.ref d)]) (⟨rfl,trivial⟩) (xN ([]) LET H rfl rfl rfl D13 (fun k _=>(htl k).2.2.1) (fun _ _ _=>rfl))),?_⟩
    intro T hT;intro xs ρ' σ14 z4;refine tJ (z4) ?_;intro E R G'' hER q405 q406 D14 hca hot;obtain rfl:=q405;obtain rfl:=q406
    refine ⟨D14.kept hkla,?_⟩
    have hEl4:E.length+R.length=10:=by have:=congrArg List.length hER;simp [LET] at this;exact o561 _ _ this
    cases R with
    | cons k R =>
     obtain ⟨b1,b2⟩:=jy k (by rw [hER];exact List.mem_append_right _ List.mem_cons_self)
     simp only [List.map_cons]
     simp only [List.length_cons] at hEl4
     fail "g"
     refine ⟨_,xi D14,zu rfl,?_⟩
     fail "g"
     fail "n";refine (yF (n:=n) D14 (o562 _ _) (o563 _ _ _ hEl4 hN0) (o564 _ _ _ hEl4 hM0) b1 (Int.le_refl _) b2 (fun σ' _=>okN.like (fun k hk=>by rw [hca k hk];rfl) rfl b1 (Int.le_refl _)) fun σ15 D15=>?_).ow
     refine ⟨rfl,?_⟩
     fail "g"
     refine (z0 ([("data",.ref d)]) (⟨rfl,trivial⟩) (xN (E++[k]) R (gput G'' "cased" k k (.bool true)) (by rw [hER];simp) rfl rfl (?_) (fun k' hk'=>?_) (fun nm k' hne=>?_)))
     ·rw [List.length_append,List.length_singleton,show N0+20+2*(E.length+1)=N0+20+2*E.length+2 by exact o565 _ _,show M0+10+(E.length+1)=M0+10+E.length+1 by exact o566 _ _]
      exact D15
     ·rw [tB]
      by_cases q:k<=k'/\k'<=k
      ·have:k'=k:=by exact o528 _ _ q
       subst this
       rw [if_pos q];simp
      ·rw [if_neg q,hca k' hk']
       have:k'≠k:=fun e=>q (o537 _ _ e)
       simp [this]
     ·rw [xK hne];exact hot nm k' hne
    | nil =>
     rw [List.append_nil] at hER
     subst hER
     simp only [List.map_nil]
     fail "g"
     simp only [List.length_nil,Nat.add_zero] at hEl4
     refine h keep2 σ14 d sl ⟨(yn _ _ _ D14 (o567 _ _ hN0 hEl4) (fun k hk=>?_)),D14.kept (hk13 _ _ hksl)⟩ (fun a co e=>hk13 _ _ (hk8 _ _ e)) fun a co _ e=>D14.kept (hk13 _ _ (hk8 _ _ e))
     refine lZ (htl k) ?_;intro t1 t2 t3 t4 t5 t6 t7 t8
     have hk0:0<=k:=by
      simp only [xh,LET,List.cons_append,List.nil_append,List.mem_cons,List.not_mem_nil,or_false] at hk
      exact o568 _ hk
     refine ⟨hk0,?_,?_,?_,?_,?_,?_,?_,?_⟩
     ·rw [hot _ _ (zR tC),t1];exact hwb3 k hk
     ·rw [hot _ _ (zR tD),t2];exact hep k hk0
     ·exact hca k hk0
     ·rw [hot _ _ (x9 xV),t4]
     ·rw [hot _ _ (zR uH),t5]
     ·rw [hot _ _ (x9 wH),t6]
     ·rw [hot _ _ (x9 wF),t7]
     ·rw [hot _ _ (x9 wG),t8]
end

section
variable {y:CW} {n:Nat} {σ:Sto} {Q:CV->Sto->Prop}
theorem uL {row:List Str} {i:Nat} (h:i<row.length):(row.map CV.str)[((i:Nat):Int).toNat]?=some (.str (ze row (i:Nat))):=by
 rw [Int.toNat_natCast,List.getElem?_map,List.getElem?_eq_getElem h,zr h];rfl
theorem oX {ra:Addr} {row:List Str} (hr:σ ra=some (.list (row.map .str))) (hl:row.length<=500)
  (h:∀ σ' b,Same [] σ σ'->σ b=none->σ' b=some (.list ((bsl row).map zX))->Q (.ref b) σ'):OCd y.c (n+1) [.ref ra] (.ref 517) Q σ:=by
 refine wfD (fa:=517) rfl (by kernel_rfl) _ (zq (bd1 fun v=>rfl)) (by kernel_rfl) fun L=>?_
 fail "g"
 refine ⟨by fail "t",fun fa nfa=>?_⟩
 fail "g"
 have hne:ra≠fa:=zf hr nfa
 fail "n";with_reducible refine' yI ?_ ?hs1
 case hs1=>exact fun _=>rfl
 with_reducible refine' mO ?r1 ?r2 ?r3 ?r4 ?_
 case r1=>kernel_rfl
 case r2=>kernel_rfl
 case r3=>exact rfl
 case r4=>exact rfl
 fail "g"
 refine ⟨ra,_,rfl,zk hr nfa,fun xs ρ' σ'=>∃ m:Nat,m<=row.length/\xs=yA (m:Nat) ((row.drop m).map CV.str)/\ρ'=([("row",.ref ra),("found",.ref fa)]:Loc)/\σ' fa=some (.list (((List.range m).filter fun j=>!alg row j).map zX))/\(∀ b co,b≠fa->σ b=some co->σ' b=some co),
  (z0 ([("row",.ref ra),("found",.ref fa)]) (⟨rfl,rfl,trivial⟩) (xL 0 (Nat.zero_le _) rfl rfl (zb _ _ _) (fun b co h1 h2=>zn h1 h2))),?_⟩
 intro T hT;intro xs ρ' σ' z1;refine rL (z1) ?_;intro m hm q407 q408 hfa hoth;obtain rfl:=q407;obtain rfl:=q408
 have hr':=hoth _ _ hne hr
 refine ⟨hr',?_⟩
 by_cases hml:m<row.length
 ·rw [List.drop_eq_getElem_cons hml]
  simp only [List.map_cons,yA]
  fail "g"
  have hs:row[m]=ze row (m:Nat):=(zr hml).symm
  rw [hs]
  with_reducible refine' uU (bs:=[SKP.contains (ze row (m:Nat)),decide (0<m),!endd row ((m:Int)-1)]) ?b1 ?b2 ?b3
  case b1=>simp
  case b2 =>
   refine ⟨?_,fun _=>⟨?_,fun h0=>⟨?_,fun _=>trivial⟩⟩⟩
   ·fail "g"
    refine ⟨by fail "t",?_⟩
    fail "n";refine vm (xs:=SKP) ?_
    fail "o"
   ·fail "g"
    refine ⟨?_,rfl⟩
    congr 1
    rw [Bool.eq_iff_iff];simp
   ·have h0':0<m:=by simpa using h0
    fail "g"
    fail "n";refine zD (fun _ _=>rfl) hr' (o279 _ h0') (cv:=.str (ze row ((m:Int)-1))) ?_ ?_
    ·have:=uL (row:=row) (i:=m-1) (o569 _ _ hml)
     rw [show (((m-1:Nat):Int))=(m:Int)-1 by exact o570 _ h0'] at this
     exact this
    fail "g"
    refine ⟨by fail "t",?_⟩
    fail "n";refine qg (xs:=ENDS) ?_
    fail "o"
  have hal:([SKP.contains (ze row (m:Nat)),decide (0<m),!endd row ((m:Int)-1)]:List Bool).all id=alg row m:=by
   simp only [List.all_cons,List.all_nil,id,Bool.and_true]
   unfold alg skp
   rw [Bool.and_assoc]
  rw [hal]
  fail "g"
  fail "if"
  fail "g"
  have hrg:((List.range (m+1)).filter fun j=>!alg row j)=((List.range m).filter fun j=>!alg row j)++(if alg row m=true then [] else [m]):=by
   rw [List.range_succ,List.filter_append]
   cases ha:alg row m with
   | true=>rw [List.filter_cons_of_neg (by rw [ha];decide)];simp
   | false=>rw [List.filter_cons_of_pos (by rw [ha];rfl)];simp
  cases ha:alg row m with
  | true =>
   rw [ha] at hrg
   fail "g"
   refine (z0 ([("row",.ref ra),("found",.ref fa)]) (⟨rfl,rfl,trivial⟩) (xL (m+1) hml rfl rfl (?_) hoth))
   rw [hrg];simpa using hfa
  | false =>
   rw [ha] at hrg
   fail "g"
   refine MethTo.of (zA hfa) (zP) ?_
   fail "g"
   fail "n";refine y0 hfa (by rw [List.length_map];have:=List.length_filter_le (fun j=>!alg row j) (List.range m);rw [List.length_range] at this;exact o571 _ _ _ this hml hl) ?_
   refine ⟨rfl,?_⟩
   fail "g"
   refine (z0 ([("row",.ref ra),("found",.ref fa)]) (⟨rfl,rfl,trivial⟩) (xL (m+1) hml rfl rfl (?_) (fun b co h1 h2=>zn h1 (hoth b co h1 h2))))
   rw [hrg,zb];simp [zX]
 ·have hm':m=row.length:=by exact o572 _ _ hm hml
  subst hm'
  rw [List.drop_of_length_le (Nat.le_refl _)]
  simp only [List.map_nil,yA]
  fail "g"
  exact h σ' fa (fun a co _ e=>hoth a co (zf e nfa) e) nfa hfa
theorem oY {row:List Str} {i:Nat} (hi:i<row.length) (ha:alg row i=false) {m:Nat} (hm:m<(stk row i).length):(bsl row)[(stk row i).length-1-m]?=some ((stk row i)[m]):=by
 rw [wv hi ha,List.getElem?_append_left (by rw [List.length_reverse];exact o573 _ _ hm),List.getElem?_reverse (o573 _ _ hm)]
 rw [show (stk row i).length-1-((stk row i).length-1-m)=m by exact o574 _ _ hm]
 exact List.getElem?_eq_getElem hm
theorem sQ {row:List Str} {i:Nat} (hi:i<row.length) (ha:alg row i=false):(bsl row)[(stk row i).length]?=some i:=by
 rw [wv hi ha,List.getElem?_append_right (by simp)];simp
theorem oZ {row:List Str} {i:Nat} (hi:i<row.length) (ha:alg row i=false):(bsl row)[(stk row i).length+1]?=(rst row i).head?/\(bsl row).length=(stk row i).length+1+(rst row i).length:=by
 rw [wv hi ha]
 constructor
 ·rw [List.getElem?_append_right (by simp),List.length_reverse,show (stk row i).length+1-(stk row i).length=1 by exact o236 _]
  cases rst row i <;> rfl
 ·simp;exact o220 _ _
theorem mz {row:List Str}:∀ j∈bsl row,j<row.length:=fun j h=>List.mem_range.mp (List.mem_filter.mp h).1
theorem n6 (row:List Str):(bsl row).Pairwise (·<·):=List.pairwise_lt_range.sublist List.filter_sublist
theorem n7 {l:List Nat} (h:l.Pairwise (·<·)) {i j:Nat} {x:Nat} (h1:l[i]?=some x) (h2:l[j]?=some x):i=j:=by
 obtain ⟨a1,b1⟩:=List.getElem?_eq_some_iff.mp h1
 obtain ⟨a2,b2⟩:=List.getElem?_eq_some_iff.mp h2
 have hp:=List.pairwise_iff_getElem.mp h
 by_cases c1:i<j
 ·have:=hp i j a1 a2 c1;exact o575 _ _ _ _ _ this b1 b2
 by_cases c2:j<i
 ·have:=hp j i a2 a1 c2;exact o575 _ _ _ _ _ this b2 b1
 exact o576 _ _ c1 c2
theorem n8 (l:List Str):odd l=(l.headD ""=="Regional_Indicator"&&odd l):=by
 cases l with
 | nil=>rfl
 | cons s r =>
  show _=(wL s&&odd (s::r))
  cases h:wL s with
  | true=>rfl
  | false =>
   unfold odd
   rw [List.takeWhile_cons_of_neg (by rw [h];decide)];rfl
noncomputable def tw (l:List Str) (m:Nat):Prop:=(l.takeWhile wL).length=m+((l.drop m).takeWhile wL).length
theorem lO {l:List Str} {m:Nat} {s:Str} (h:tw l m) (hs:l[m]?=some s) (hr:wL s=true):tw l (m+1):=by
 unfold tw at h ⊢
 obtain ⟨a,b⟩:=List.getElem?_eq_some_iff.mp hs
 rw [List.drop_eq_getElem_cons a,b,List.takeWhile_cons_of_pos hr,List.length_cons] at h
 exact o577 _ _ _ h
theorem jz {l:List Str} {m:Nat} (h:tw l m) (hs:l[m]?=none∨∃ s,l[m]?=some s/\wL s=false):(l.takeWhile wL).length=m:=by
 unfold tw at h
 rcases hs with hs | ⟨s,hs,hr⟩
 ·rw [List.drop_of_length_le (List.getElem?_eq_none_iff.mp hs)] at h;simpa using h
 ·obtain ⟨a,b⟩:=List.getElem?_eq_some_iff.mp hs
  rw [List.drop_eq_getElem_cons a,b,List.takeWhile_cons_of_neg (by rw [hr];decide)] at h
  simpa using h
theorem n9 {ra ba:Addr} {row:List Str} {i:Nat} (hr:σ ra=some (.list (row.map .str))) (hb:σ ba=some (.list ((bsl row).map zX))) (h0:0<i) (hi:i<row.length) (ha:alg row i=false)
  (h:Q (.bool (lwhole row i)) σ):OCd y.c (n+1) [.ref ra,.ref ba,.int i] (.ref 524) Q σ:=by
 refine wfD (fa:=524) rfl (by kernel_rfl) _ (zq (bd3 fun v w x=>rfl)) (by kernel_rfl) fun L=>?_
 refine zL (vI row h0) ?_;intro j t e
 refine yL (xu e) ?_;intro e1 e2 e3 e4
 have hK:(stk row i).length=t.length+1:=by rw [e];rfl
 have hss:ss row i=ze row (j:Nat)::ss row j:=by unfold ss;rw [e,e1];rfl
 have hb':σ ba=some (.list (((bsl row).map fun (w:Nat)=>(w:Int)).map CV.int)):=by rw [← yZ];exact hb
 have bslAt:∀ (m x:Nat),(bsl row)[m]?=some x->((bsl row).map zX)[((m:Nat):Int).toNat]?=some (.int (x:Nat)):=fun m x hx=>by
  rw [Int.toNat_natCast,List.getElem?_map,hx];rfl
 have hback:∀ m x,(stk row i)[m]?=some x->(bsl row)[(stk row i).length-1-m]?=some x/\x<row.length:=fun m x hx=>by
  obtain ⟨a,b⟩:=List.getElem?_eq_some_iff.mp hx
  have:=oY hi ha a
  rw [b] at this
  exact ⟨this,mz _ (List.mem_of_getElem? this)⟩
 have hodd:=n8 (ss row i)
 unfold lwhole at h
 fail "g"
 refine MethTo.of (qo hb') (zP) ?_
 fail "g"
 fail "n";refine kw (j:=(stk row i).length) hb' (by rw [List.getElem?_map,sQ hi ha];rfl) (fun m hm e=>?_) ?_
 ·rw [List.getElem?_map] at e
  cases hx:(bsl row)[m]? with
  | none=>rw [hx] at e;cases e
  | some x =>
   rw [hx] at e
   simp only [Option.map_some,Option.some.injEq] at e
   have:x=i:=by exact o578 _ _ e
   subst this
   have:=n7 (n6 row) hx (sQ hi ha)
   exact o579 _ _ hm this
 fail "n";(try fail "sr")
 fail "n";with_reducible refine' vA (u:=decide (1<(stk row i).length)) (v:=.str ((ss row i).tail.headD "")) ?f1 ?f2 ?f3 ?_
 case f1=>fail "g";refine ⟨?_,rfl⟩;rw [Bool.eq_iff_iff,decide_eq_true_eq,decide_eq_true_eq];exact o580 _
 case f2 =>
  intro hu
  have hu':1<(stk row i).length:=by simpa using hu
  obtain ⟨j2,t2,rfl⟩:∃ j2 t2,t=j2::t2:=by
   cases t with
   | nil=>simp at hK;exact (o581 _ hu' hK).elim
   | cons j2 t2=>exact (zZ j2 t2 rfl)
  have ht1:(stk row i)[1]?=some j2:=by rw [e];rfl
  obtain ⟨g1,g2⟩:=hback _ _ ht1
  have hv:(ss row i).tail.headD "" = ze row (j2:Nat):=by unfold ss;rw [e];rfl
  rw [hv]
  fail "g"
  fail "n";refine zD (fun _ _=>rfl) hb (o582 _ hu') (cv:=.int (j2:Nat)) ?_ ?_
  ·have:=bslAt _ _ g1
   rw [show (((stk row i).length-1-1:Nat):Int)=((stk row i).length:Int)-2 by exact o583 _ hu'] at this
   exact this
  fail "n";refine zD (fun _ _=>rfl) hr (o162 _) (cv:=.str (ze row (j2:Nat))) (uL g2) ?_
  exact ⟨rfl,rfl⟩
 case f3 =>
  intro hu
  have hu':¬ 1<(stk row i).length:=by simpa using hu
  have:t=[]:=List.length_eq_zero_iff.mp (o584 _ _ hK hu')
  subst this
  have hv:(ss row i).tail.headD "" = "":=by unfold ss;rw [e];rfl
  rw [hv]
  fail "o"
 fail "g"
 have ht0:(stk row i)[0]?=some j:=by rw [e];rfl
 obtain ⟨g1,g2⟩:=hback _ _ ht0
 fail "n";refine zD (fun _ _=>rfl) hb (o585 _ _ hK) (cv:=.int (j:Nat)) ?_ ?_
 ·have:=bslAt _ _ g1
  rw [show (((stk row i).length-1-0:Nat):Int)=((stk row i).length:Int)-1 by exact o586 _ _ hK] at this
  exact this
 fail "n";refine zD (fun _ _=>rfl) hr (o162 _) (cv:=.str (ze row (j:Nat))) (uL g2) ?_
 fail "g"
 fail "n";refine zD (fun _ _=>rfl) hr (o162 _) (cv:=.str (ze row (i:Nat))) (uL hi) ?_
 fail "g"
 refine ⟨by fail "t",(zt _ rfl rfl (?_))⟩
 fail "gx"
 obtain ⟨n1,n2⟩:=oZ hi ha
 fail "n";with_reducible refine' vA (u:=decide ((stk row i).length+1<(bsl row).length)) (v:=.str (nxt row i)) ?g1 ?g2 ?g3 ?_
 case g1 =>
  fail "g"
  fail "n";refine xR hb ?_
  fail "g"
  refine ⟨?_,rfl⟩
  rw [List.length_map,Bool.eq_iff_iff,decide_eq_true_eq,decide_eq_true_eq];exact o587 _ _
 case g2 =>
  intro hu
  have hu':(stk row i).length+1<(bsl row).length:=by simpa using hu
  obtain ⟨q,r,hq⟩:∃ q r,rst row i=q::r:=by
   cases hr:rst row i with
   | nil=>rw [hr] at n2;simp at n2;exact (o588 _ _ hu' n2).elim
   | cons q r=>exact (zZ q r rfl)
  rw [hq] at n1
  have hv:nxt row i=ze row (q:Nat):=by unfold nxt;rw [hq];rfl
  have g2':q<row.length:=mz _ (List.mem_of_getElem? n1)
  rw [hv]
  fail "g"
  fail "n";refine zD (fun _ _=>rfl) hb (o376 _) (cv:=.int (q:Nat)) ?_ ?_
  ·have:=bslAt _ _ n1
   rw [show (((stk row i).length+1:Nat):Int)=((stk row i).length:Int)+1 by exact o589 _] at this
   exact this
  fail "n";refine zD (fun _ _=>rfl) hr (o162 _) (cv:=.str (ze row (q:Nat))) (uL g2') ?_
  exact ⟨rfl,rfl⟩
 case g3 =>
  intro hu
  have hu':¬ (stk row i).length+1<(bsl row).length:=by simpa using hu
  have hq:rst row i=[]:=List.length_eq_zero_iff.mp (o590 _ _ _ n2 hu')
  have hv:nxt row i = "":=by unfold nxt;rw [hq];rfl
  rw [hv]
  fail "o"
 have hlf:(ss row i).headD "" = ze row (j:Nat):=by rw [hss];rfl
 rw [hlf] at h hodd
 generalize hbe:nxt row i=be at *
 generalize hfa:(ss row i).tail.headD "" = fa at *
 generalize hlf':ze row (j:Nat)=lf at *
 generalize hrt:ze row (i:Nat)=rt at *
 fail "g"
 refine ⟨by fail "t",?_⟩
 fail "g"
 refine ⟨by fail "t",?_⟩
 fail "g"
 refine ⟨by fail "t",?_⟩
 fail "g"
 unfold pwhole at h
 fail "g"
 fail "n";with_reducible refine' y4 (vz (bs:=[[LETTERS.contains lf,LETTERS.contains rt].all id,[lf=="Numeric",PLAIN.contains rt].all id]) ?a1 ⟨rfl,rfl⟩) ?_ ?_
 case a1 =>
  refine ⟨?_,fun _=>⟨?_,fun _=>trivial⟩⟩
  ·with_reducible refine' zJ (bs:=[LETTERS.contains lf,LETTERS.contains rt]) ?u10 ⟨rfl,rfl⟩
   case u10 =>
    refine ⟨?_,fun _=>⟨?_,fun _=>trivial⟩⟩
    ·(fail "g";refine vm (xs:=LETTERS) ?_;fail "o")
    ·(fail "g";refine vm (xs:=LETTERS) ?_;fail "o")
  ·with_reducible refine' zJ (bs:=[lf=="Numeric",PLAIN.contains rt]) ?u11 ⟨rfl,rfl⟩
   case u11 =>
    refine ⟨?_,fun _=>⟨?_,fun _=>trivial⟩⟩
    ·fail "o"
    ·(fail "g";refine ⟨by fail "t",?_⟩;fail "g";refine uR (by simp) (by simp) (by fail "t") ?_;fail "g";refine vm (xs:=PLAIN) ?_;fail "o")
 ·intro ht
  have ht':((LETTERS.contains lf&&LETTERS.contains rt) || (lf=="Numeric"&&PLAIN.contains rt))=true:=by
   rw [← ht]
   simp only [List.any_cons,List.any_nil,List.all_cons,List.all_nil,id,Bool.and_true,Bool.or_false,Bool.and_assoc]
  rw [if_pos ht'] at h
  fail "g"
  exact h
 intro hf
 have hf':((LETTERS.contains lf&&LETTERS.contains rt) || (lf=="Numeric"&&PLAIN.contains rt))=false:=by
  rw [← hf]
  simp only [List.any_cons,List.any_nil,List.all_cons,List.all_nil,id,Bool.and_true,Bool.or_false,Bool.and_assoc]
 rw [if_neg (by rw [hf'];decide)] at h
 clear hf hf'
 fail "g"
 fail "n";with_reducible refine' y4 (zJ (bs:=[LETTERS.contains lf,INLET.contains rt,LETTERS.contains be]) ?a2 ⟨rfl,rfl⟩) ?_ ?_
 case a2 =>
  refine ⟨?_,fun _=>⟨?_,fun _=>⟨?_,fun _=>trivial⟩⟩⟩
  ·(fail "g";refine vm (xs:=LETTERS) ?_;fail "o")
  ·(fail "g";refine ⟨by fail "t",?_⟩;fail "g";refine uR (by simp) (by simp) (by fail "t") ?_;fail "g";refine vm (xs:=INLET) ?_;fail "o")
  ·(fail "g";refine vm (xs:=LETTERS) ?_;fail "o")
 ·intro ht
  have ht':(LETTERS.contains lf&&INLET.contains rt&&LETTERS.contains be)=true:=by
   rw [← ht]
   simp only [List.any_cons,List.any_nil,List.all_cons,List.all_nil,id,Bool.and_true,Bool.or_false,Bool.and_assoc]
  rw [if_pos ht'] at h
  fail "g"
  exact h
 intro hf
 have hf':(LETTERS.contains lf&&INLET.contains rt&&LETTERS.contains be)=false:=by
  rw [← hf]
  simp only [List.any_cons,List.any_nil,List.all_cons,List.all_nil,id,Bool.and_true,Bool.or_false,Bool.and_assoc]
 rw [if_neg (by rw [hf'];decide)] at h
 clear hf hf'
 fail "g"
 fail "n";with_reducible refine' y4 (zJ (bs:=[LETTERS.contains fa,INLET.contains lf,LETTERS.contains rt]) ?a3 ⟨rfl,rfl⟩) ?_ ?_
 case a3 =>
  refine ⟨?_,fun _=>⟨?_,fun _=>⟨?_,fun _=>trivial⟩⟩⟩
  ·(fail "g";refine vm (xs:=LETTERS) ?_;fail "o")
  ·(fail "g";refine ⟨by fail "t",?_⟩;fail "g";refine uR (by simp) (by simp) (by fail "t") ?_;fail "g";refine vm (xs:=INLET) ?_;fail "o")
  ·(fail "g";refine vm (xs:=LETTERS) ?_;fail "o")
 ·intro ht
  have ht':(LETTERS.contains fa&&INLET.contains lf&&LETTERS.contains rt)=true:=by
   rw [← ht]
   simp only [List.any_cons,List.any_nil,List.all_cons,List.all_nil,id,Bool.and_true,Bool.or_false,Bool.and_assoc]
  rw [if_pos ht'] at h
  fail "g"
  exact h
 intro hf
 have hf':(LETTERS.contains fa&&INLET.contains lf&&LETTERS.contains rt)=false:=by
  rw [← hf]
  simp only [List.any_cons,List.any_nil,List.all_cons,List.all_nil,id,Bool.and_true,Bool.or_false,Bool.and_assoc]
 rw [if_neg (by rw [hf'];decide)] at h
 clear hf hf'
 fail "g"
 fail "n";with_reducible refine' y4 (vz (bs:=[[lf=="Hebrew_Letter",rt=="Single_Quote"].all id,[LETTERS.contains lf,rt=="Numeric"].all id]) ?a4 ⟨rfl,rfl⟩) ?_ ?_
 case a4 =>
  refine ⟨?_,fun _=>⟨?_,fun _=>trivial⟩⟩
  ·with_reducible refine' zJ (bs:=[lf=="Hebrew_Letter",rt=="Single_Quote"]) ?u40 ⟨rfl,rfl⟩
   case u40 =>
    refine ⟨?_,fun _=>⟨?_,fun _=>trivial⟩⟩
    ·fail "o"
    ·fail "o"
  ·with_reducible refine' zJ (bs:=[LETTERS.contains lf,rt=="Numeric"]) ?u41 ⟨rfl,rfl⟩
   case u41 =>
    refine ⟨?_,fun _=>⟨?_,fun _=>trivial⟩⟩
    ·(fail "g";refine vm (xs:=LETTERS) ?_;fail "o")
    ·fail "o"
 ·intro ht
  have ht':((lf=="Hebrew_Letter"&&rt=="Single_Quote") || (LETTERS.contains lf&&rt=="Numeric"))=true:=by
   rw [← ht]
   simp only [List.any_cons,List.any_nil,List.all_cons,List.all_nil,id,Bool.and_true,Bool.or_false,Bool.and_assoc]
  rw [if_pos ht'] at h
  fail "g"
  exact h
 intro hf
 have hf':((lf=="Hebrew_Letter"&&rt=="Single_Quote") || (LETTERS.contains lf&&rt=="Numeric"))=false:=by
  rw [← hf]
  simp only [List.any_cons,List.any_nil,List.all_cons,List.all_nil,id,Bool.and_true,Bool.or_false,Bool.and_assoc]
 rw [if_neg (by rw [hf'];decide)] at h
 clear hf hf'
 fail "g"
 fail "n";with_reducible refine' y4 (zJ (bs:=[lf=="Hebrew_Letter",rt=="Double_Quote",be=="Hebrew_Letter"]) ?a5 ⟨rfl,rfl⟩) ?_ ?_
 case a5 =>
  refine ⟨?_,fun _=>⟨?_,fun _=>⟨?_,fun _=>trivial⟩⟩⟩
  ·fail "o"
  ·fail "o"
  ·fail "o"
 ·intro ht
  have ht':(lf=="Hebrew_Letter"&&rt=="Double_Quote"&&be=="Hebrew_Letter")=true:=by
   rw [← ht]
   simp only [List.any_cons,List.any_nil,List.all_cons,List.all_nil,id,Bool.and_true,Bool.or_false,Bool.and_assoc]
  rw [if_pos ht'] at h
  fail "g"
  exact h
 intro hf
 have hf':(lf=="Hebrew_Letter"&&rt=="Double_Quote"&&be=="Hebrew_Letter")=false:=by
  rw [← hf]
  simp only [List.any_cons,List.any_nil,List.all_cons,List.all_nil,id,Bool.and_true,Bool.or_false,Bool.and_assoc]
 rw [if_neg (by rw [hf'];decide)] at h
 clear hf hf'
 fail "g"
 fail "n";with_reducible refine' y4 (zJ (bs:=[fa=="Hebrew_Letter",lf=="Double_Quote",rt=="Hebrew_Letter"]) ?a6 ⟨rfl,rfl⟩) ?_ ?_
 case a6 =>
  refine ⟨?_,fun _=>⟨?_,fun _=>⟨?_,fun _=>trivial⟩⟩⟩
  ·fail "o"
  ·fail "o"
  ·fail "o"
 ·intro ht
  have ht':(fa=="Hebrew_Letter"&&lf=="Double_Quote"&&rt=="Hebrew_Letter")=true:=by
   rw [← ht]
   simp only [List.any_cons,List.any_nil,List.all_cons,List.all_nil,id,Bool.and_true,Bool.or_false,Bool.and_assoc]
  rw [if_pos ht'] at h
  fail "g"
  exact h
 intro hf
 have hf':(fa=="Hebrew_Letter"&&lf=="Double_Quote"&&rt=="Hebrew_Letter")=false:=by
  rw [← hf]
  simp only [List.any_cons,List.any_nil,List.all_cons,List.all_nil,id,Bool.and_true,Bool.or_false,Bool.and_assoc]
 rw [if_neg (by rw [hf'];decide)] at h
 clear hf hf'
 fail "g"
 fail "n";with_reducible refine' y4 (zJ (bs:=[fa=="Numeric",INNUM.contains lf,rt=="Numeric"]) ?a7 ⟨rfl,rfl⟩) ?_ ?_
 case a7 =>
  refine ⟨?_,fun _=>⟨?_,fun _=>⟨?_,fun _=>trivial⟩⟩⟩
  ·fail "o"
  ·(fail "g";refine ⟨by fail "t",?_⟩;fail "g";refine uR (by simp) (by simp) (by fail "t") ?_;fail "g";refine vm (xs:=INNUM) ?_;fail "o")
  ·fail "o"
 ·intro ht
  have ht':(fa=="Numeric"&&INNUM.contains lf&&rt=="Numeric")=true:=by
   rw [← ht]
   simp only [List.any_cons,List.any_nil,List.all_cons,List.all_nil,id,Bool.and_true,Bool.or_false,Bool.and_assoc]
  rw [if_pos ht'] at h
  fail "g"
  exact h
 intro hf
 have hf':(fa=="Numeric"&&INNUM.contains lf&&rt=="Numeric")=false:=by
  rw [← hf]
  simp only [List.any_cons,List.any_nil,List.all_cons,List.all_nil,id,Bool.and_true,Bool.or_false,Bool.and_assoc]
 rw [if_neg (by rw [hf'];decide)] at h
 clear hf hf'
 fail "g"
 fail "n";with_reducible refine' y4 (zJ (bs:=[lf=="Numeric",INNUM.contains rt,be=="Numeric"]) ?a8 ⟨rfl,rfl⟩) ?_ ?_
 case a8 =>
  refine ⟨?_,fun _=>⟨?_,fun _=>⟨?_,fun _=>trivial⟩⟩⟩
  ·fail "o"
  ·(fail "g";refine ⟨by fail "t",?_⟩;fail "g";refine uR (by simp) (by simp) (by fail "t") ?_;fail "g";refine vm (xs:=INNUM) ?_;fail "o")
  ·fail "o"
 ·intro ht
  have ht':(lf=="Numeric"&&INNUM.contains rt&&be=="Numeric")=true:=by
   rw [← ht]
   simp only [List.any_cons,List.any_nil,List.all_cons,List.all_nil,id,Bool.and_true,Bool.or_false,Bool.and_assoc]
  rw [if_pos ht'] at h
  fail "g"
  exact h
 intro hf
 have hf':(lf=="Numeric"&&INNUM.contains rt&&be=="Numeric")=false:=by
  rw [← hf]
  simp only [List.any_cons,List.any_nil,List.all_cons,List.all_nil,id,Bool.and_true,Bool.or_false,Bool.and_assoc]
 rw [if_neg (by rw [hf'];decide)] at h
 clear hf hf'
 fail "g"
 refine ⟨by fail "t",?_⟩
 fail "g"
 fail "n";refine uR (by simp) (by simp) (by fail "t") ?_
 fail "g"
 fail "n";with_reducible refine' y4 (vz (bs:=[[lf=="Katakana",rt=="Katakana"].all id,[JOINE.contains lf,rt=="ExtendNumLet"].all id]) ?a10 ⟨rfl,rfl⟩) ?_ ?_
 case a10 =>
  refine ⟨?_,fun _=>⟨?_,fun _=>trivial⟩⟩
  ·with_reducible refine' zJ (bs:=[lf=="Katakana",rt=="Katakana"]) ?u100 ⟨rfl,rfl⟩
   case u100 =>
    refine ⟨?_,fun _=>⟨?_,fun _=>trivial⟩⟩
    ·fail "o"
    ·fail "o"
  ·with_reducible refine' zJ (bs:=[JOINE.contains lf,rt=="ExtendNumLet"]) ?u101 ⟨rfl,rfl⟩
   case u101 =>
    refine ⟨?_,fun _=>⟨?_,fun _=>trivial⟩⟩
    ·(fail "g";refine ⟨by fail "t",?_⟩;fail "g";refine uR (by simp) (by simp) (by fail "t") ?_;fail "g";refine vm (xs:=JOINE) ?_;fail "o")
    ·fail "o"
 ·intro ht
  have ht':((lf=="Katakana"&&rt=="Katakana") || (JOINE.contains lf&&rt=="ExtendNumLet"))=true:=by
   rw [← ht]
   simp only [List.any_cons,List.any_nil,List.all_cons,List.all_nil,id,Bool.and_true,Bool.or_false,Bool.and_assoc]
  rw [if_pos ht'] at h
  fail "g"
  exact h
 intro hf
 have hf':((lf=="Katakana"&&rt=="Katakana") || (JOINE.contains lf&&rt=="ExtendNumLet"))=false:=by
  rw [← hf]
  simp only [List.any_cons,List.any_nil,List.all_cons,List.all_nil,id,Bool.and_true,Bool.or_false,Bool.and_assoc]
 rw [if_neg (by rw [hf'];decide)] at h
 clear hf hf'
 fail "g"
 fail "n";with_reducible refine' y4 (zJ (bs:=[lf=="ExtendNumLet",JOINED.contains rt]) ?a11 ⟨rfl,rfl⟩) ?_ ?_
 case a11 =>
  refine ⟨?_,fun _=>⟨?_,fun _=>trivial⟩⟩
  ·fail "o"
  ·(fail "g";refine vm (xs:=JOINED) ?_;fail "o")
 ·intro ht
  have ht':(lf=="ExtendNumLet"&&JOINED.contains rt)=true:=by
   rw [← ht]
   simp only [List.any_cons,List.any_nil,List.all_cons,List.all_nil,id,Bool.and_true,Bool.or_false,Bool.and_assoc]
  rw [if_pos ht'] at h
  fail "g"
  exact h
 intro hf
 have hf':(lf=="ExtendNumLet"&&JOINED.contains rt)=false:=by
  rw [← hf]
  simp only [List.any_cons,List.any_nil,List.all_cons,List.all_nil,id,Bool.and_true,Bool.or_false,Bool.and_assoc]
 rw [if_neg (by rw [hf'];decide)] at h
 clear hf hf'
 fail "g"
 with_reducible show WSS _ _ _ _ _ _ _ _
 fail "n";with_reducible refine' xc (fun k' ρ' σ'=>∃ m:Nat,k'+m=(stk row i).length/\tw (ss row i) m/\ρ'=([("row",.ref ra),("bases",.ref ba),("right",.str rt),("k",.int ((stk row i).length:Nat)),("many",.int (m:Nat))]:Loc)/\σ'=σ) (stk row i).length ?w0 ?w1
 case w0=>exact (z0 ([("row",.ref ra),("bases",.ref ba),("right",.str rt),("k",.int ((stk row i).length:Nat)),("many",.int ((0:Nat):Int))]) (⟨rfl,rfl,rfl,rfl,rfl,trivial⟩) (zN 0 rfl (by simp [tw]) rfl rfl))
 case w1 =>
  intro T hT;intro k' ρ' σ' z2;refine wc (z2) ?_;intro m hm htw q409 q410;obtain rfl:=q409;obtain rfl:=q410
  with_reducible refine' zJ (bs:=[decide (m<(stk row i).length),wL ((ss row i).getD m "")]) ?x1 ?x2
  case x1 =>
   refine ⟨?_,fun hb1=>⟨?_,fun _=>trivial⟩⟩
   ·fail "g"
    refine ⟨?_,rfl⟩
    rw [Bool.eq_iff_iff,decide_eq_true_eq,decide_eq_true_eq];exact o591 _ _
   ·have hmK:m<(stk row i).length:=by simpa using hb1
    have hx:=List.getElem?_eq_getElem hmK
    obtain ⟨g1,g2⟩:=hback m _ hx
    have hs:(ss row i).getD m "" = ze row ((stk row i)[m]:Nat):=by unfold ss;simp [hmK]
    fail "g"
    fail "n";refine zD (fun _ _=>rfl) hb (o592 _ _ hmK) (cv:=.int ((stk row i)[m]:Nat)) ?_ ?_
    ·have:=bslAt _ _ g1
     rw [show (((stk row i).length-1-m:Nat):Int)=((stk row i).length:Int)-1-m by exact o593 _ _ hmK] at this
     exact this
    fail "n";refine zD (fun _ _=>rfl) hr (o162 _) (cv:=.str (ze row ((stk row i)[m]:Nat))) (uL g2) ?_
    fail "g"
    exact ⟨by rw [hs];rfl,rfl⟩
  case x2 =>
   by_cases hc:m<(stk row i).length/\wL ((ss row i).getD m "")=true
   ·have hall:([decide (m<(stk row i).length),wL ((ss row i).getD m "")]:List Bool).all id=true:=by
     simp only [List.all_cons,List.all_nil,id,Bool.and_true,hc.2,decide_eq_true hc.1]
    refine Br.pos hall ?_
    have hsl:m<(ss row i).length:=by unfold ss;rw [List.length_map];exact hc.1
    fail "g"
    refine (zj (k'-1) ([("row",.ref ra),("bases",.ref ba),("right",.str rt),("k",.int ((stk row i).length:Nat)),("many",.int ((m+1:Nat):Int))]) (o594 _ _ _ _ hm hc) (⟨rfl,rfl,rfl,rfl,rfl,trivial⟩) (zN (m+1) (o595 _ _ _ _ hm hc) (lO htw (List.getElem?_eq_getElem hsl) ?_) rfl rfl))
    have:=hc.2
    simpa [hsl] using this
   ·have hall:([decide (m<(stk row i).length),wL ((ss row i).getD m "")]:List Bool).all id=false:=by
     simp only [List.all_cons,List.all_nil,id,Bool.and_true]
     rw [Bool.and_eq_false_iff,decide_eq_false_iff_not]
     by_cases q:m<(stk row i).length
     ·right
      cases q2:wL ((ss row i).getD m "") with
      | false=>rfl
      | true=>exact absurd ⟨q,q2⟩ hc
     ·exact .inl q
    have hend:((ss row i).takeWhile wL).length=m:=jz htw (by
     by_cases q:m<(ss row i).length
     ·right
      refine (z0 _ (List.getElem?_eq_getElem q) (?_))
      have q3:m<(stk row i).length:=by unfold ss at q;rwa [List.length_map] at q
      cases q2:wL ((ss row i)[m]) with
      | false=>rfl
      | true=>exact absurd ⟨q3,by simpa [q] using q2⟩ hc
     ·exact .inl (List.getElem?_eq_none_iff.mpr (o89 _ _ q)))
    refine Br.neg hall ?_
    fail "g"
    with_reducible refine' uU (bs:=[rt=="Regional_Indicator",m % 2==1]) ?y1 ?y2 ?y3
    case y1=>simp
    case y2 =>
     refine ⟨?_,fun _=>⟨?_,fun _=>trivial⟩⟩
     ·fail "o"
     ·fail "g"
      fail "n";refine qf (by decide) ?_
      fail "g"
      refine ⟨?_,rfl⟩
      congr 1
      rw [Int.fmod_eq_emod_of_nonneg _ (by decide),Bool.eq_iff_iff,beq_iff_eq,beq_iff_eq]
      exact o343 _
    have ho:odd (ss row i)=(m % 2==1):=by unfold odd;rw [hend]
    rw [ho] at h hodd
    rw [← hodd] at h
    have e2:([rt=="Regional_Indicator",m % 2==1]:List Bool).all id=(rt=="Regional_Indicator"&&m % 2==1):=by
     simp only [List.all_cons,List.all_nil,id,Bool.and_true]
    rw [e2]
    exact h
end

section
variable {y:CW} {n:Nat} {σ:Sto} {Q:CV->Sto->Prop}
noncomputable def jA (sf:Int->Str):CV->CV | .int k=>.str (sf k) | v=>v
theorem jB (sf:Int->Str) (text:List Int):((text.map CV.int).filter (fun _=>true)).map (jA sf)=(text.map sf).map CV.str:=by
 rw [List.filter_eq_self.mpr (by simp),List.map_map,List.map_map];rfl
noncomputable def yK (pics:List Int) (text:List Int) (i:Nat):Bool:=pics.contains (text.getD i 0)
theorem po {row:List Str} {pic:Nat->Bool} (hn:0<row.length):(List.range (row.length+1)).filter (lrule row pic)=bnd row pic:=by
 unfold bnd
 refine List.filter_congr fun i hi=>?_
 have:=List.mem_range.mp hi
 exact rg hn (o263 _ _ this)
theorem vU {tx sd pc:Addr} {text:List Int} {es:List (Int × CV)} {ep:Nat} {pics:List Int} {sf:Int->Str} (htx:σ tx=some (.list (text.map .int))) (hsd:σ sd=some (.idict es ep)) (hes:∀ k∈text,es.lookup k=some (.str (sf k)))
  (hpc:σ pc=some (.list (pics.map .int))) (hl:text.length<=400)
  (h:∀ σ' b,Same [] σ σ'->σ b=none->σ' b=some (.list ((bnd (text.map sf) (yK pics text)).map zX))->Q (.ref b) σ'):OCd y.c (n+3) [.ref tx,.ref sd,.ref pc] (.ref 529) Q σ:=by
 refine mF (fa:=529) rfl (by kernel_rfl) _ (bd3 (fun v w x=>rfl)) (by kernel_rfl) (fun L=>by kernel_rfl) fun L=>?_
 fail "g"
 fail "n";with_reducible refine' ye (fv:=[("sorts",.ref sd)]) ?ok ?hs ?_
 case ok =>
  refine ⟨rfl,of_decide_eq_true (by kernel_rfl),rfl,?_,?_,?_⟩
  ·decide +kernel
  ·intro e he;rw [List.mem_singleton] at he;subst he;exact ⟨rfl,zx rfl,zx rfl,rfl⟩
  ·intro e he;rw [List.mem_singleton] at he;subst he;rfl
 case hs=>exact fun _=>rfl
 refine wm ?_
 fail "g"
 refine (zj _ _ (zK htx) (by rw [List.length_map];exact o596 _ hl) (zV (fun _=>true) (jA sf) (?_) (fun ra nra=>?_)))
 ·intro v hv C
  refine za (List.mem_map.mp hv) ?_;intro k hk q411;obtain rfl:=q411
  fail "g"
  refine ⟨rfl,⟨rfl,trivial⟩,vt ⟨rfl,rfl,fun _=>?_⟩⟩
  fail "g"
  fail "n";refine mI (fun _ _=>rfl) hsd (hes k hk) ?_
  exact ⟨rfl,rfl⟩
 rw [jB]
 have hrl:(text.map sf).length=text.length:=by rw [List.length_map]
 generalize text.map sf=row at h hrl
 fail "g"
 refine ⟨by fail "t",fun fa nfa=>?_⟩
 fail "g"
 refine ⟨by fail "t",(zt _ rfl rfl (?_))⟩
 fail "g"
 have hra1:upd (upd σ ra (CO.list (List.map CV.str row))) fa (CO.list []) ra=some (.list (row.map .str)):=zk (zb _ _ _) nfa
 have hfa1:upd (upd σ ra (CO.list (List.map CV.str row))) fa (CO.list []) fa=some (.list []):=zb _ _ _
 have sm1:Same [] σ (upd (upd σ ra (CO.list (List.map CV.str row))) fa (CO.list [])):=Same.newU (Same.newU Same.refl nra) nfa
 have nfa0:σ fa=none:=(zi nfa).1
 have hrf:ra≠fa:=(zi nfa).2.symm
 generalize upd (upd σ ra (CO.list (List.map CV.str row))) fa (CO.list [])=σ1 at *
 fail "n";refine (oX (n:=n+1) hra1 (o597 _ _ hrl hl) fun σ2 ba sm2 nba hba=>?_).ow
 have hbf:ba≠fa:=by rintro rfl;rw [hfa1] at nba;cases nba
 have hra2:=sm2 _ _ (by simp) hra1
 have hfa2:=sm2 _ _ (by simp) hfa1
 have smm:=sm1.trans sm2
 fail "g"
 fail "n";with_reducible refine' yI ?_ ?hs1
 case hs1=>exact fun _=>rfl
 with_reducible refine' yR ?r1 ?r2 ?r3 ?r4 ?_
 case r1=>kernel_rfl
 case r2=>kernel_rfl
 case r3=>exact rfl
 case r4=>exact rfl
 with_reducible refine' rY ?q1 ?_
 case q1=>exact rfl
 refine zE (Q:=fun v σ'=>v=.int ((if row.length=0 then 0 else row.length+1:Nat):Int)/\Same [] σ2 σ') ?_ ?_
 ·fail "g"
  refine ⟨by fail "t",fun d nd=>?_⟩
  fail "n";refine oNe (da:=.list (text.map PyData.int)) (db:=.list []) (zo (zk (smm _ _ (by simp) htx) nd) (zG _)) (zo (zb _ _ _) rfl) (zU _) rfl ?_
  fail "g"
  have hv:(PyData.list (text.map PyData.int)).eqv (.list [])=text.isEmpty:=by cases text <;> simp [PyData.eqv,PyData.eqvAll]
  rw [hv]
  cases text with
  | nil =>
   fail "g"
   exact ⟨by rw [if_pos (by rw [hrl];rfl)];rfl,Same.newU Same.refl nd⟩
  | cons c text =>
   fail "g"
   fail "n";refine xR (zk (smm _ _ (by simp) htx) nd) ?_
   fail "g"
   exact ⟨by rw [if_neg (by rw [hrl];simp),hrl];simp,Same.newU Same.refl nd⟩
 intro v σ3 z1;obtain ⟨rfl,sm3⟩:=z1
 fail "g"
 generalize hK:(if row.length=0 then 0 else row.length+1:Nat)=K
 have hra3:=sm3 _ _ (by simp) hra2
 have hfa3:=sm3 _ _ (by simp) hfa2
 have hba3:=sm3 _ _ (by simp) hba
 have smz:=smm.trans sm3
 have hpcf:pc≠fa:=zf hpc nfa0
 have htxf:tx≠fa:=zf htx nfa0
 have hKl:K<=row.length+1:=by rw [← hK];split <;> (first | exact o598 _ | exact o386 _)
 generalize hpic:yK pics text=pic at *
 have hpicm:∀ m,pic m=pics.contains (text.getD m 0):=fun m=>by rw [← hpic];rfl
 refine ⟨((K:Nat):Int),rfl,by exact o372 _,by exact o599 _ _ _ hKl hrl hl,fun xs ρ' σ'=>∃ m:Nat,m<=K/\xs=rng (m:Nat) 1 (K-m)/\ρ'=([("text",.ref tx),("pictures",.ref pc),("row",.ref ra),("found",.ref fa),("bases",.ref ba)]:Loc)/\σ' fa=some (.list (((List.range m).filter (lrule row pic)).map zX))/\(∀ b co,b≠fa->σ3 b=some co->σ' b=some co),
  (z0 ([("text",.ref tx),("pictures",.ref pc),("row",.ref ra),("found",.ref fa),("bases",.ref ba)]) (⟨rfl,rfl,rfl,rfl,rfl,trivial⟩) (xL 0 (Nat.zero_le _) rfl rfl hfa3 (fun _ _ _ e=>e))),?_⟩
 intro T hT;intro xs ρ' σ' z2;refine rL (z2) ?_;intro m hm q413 q414 hfa hoth;obtain rfl:=q413;obtain rfl:=q414
 refine ⟨trivial,?_⟩
 have hra:=hoth _ _ hrf hra3
 have hba':=hoth _ _ hbf hba3
 have htx':=hoth _ _ htxf (smz _ _ (by simp) htx)
 have hpc':=hoth _ _ hpcf (smz _ _ (by simp) hpc)
 cases hmm:K-m with
 | zero =>
  simp only [rng]
  fail "g"
  have hmK:m=K:=by exact o375 _ _ hmm hm
  subst hmK
  refine h σ' fa (fun a co _ e=>hoth a co (zf e nfa0) (smz _ _ (by simp) e)) nfa0 ?_
  rw [hfa]
  by_cases h0:row.length=0
  ·rw [if_pos h0] at hK
   rw [List.length_eq_zero_iff.mp h0,tv,← hK];rfl
  ·rw [if_neg h0] at hK
   rw [← hK,po (o247 _ h0)]
 | succ j =>
  simp only [rng]
  have hmn:K=row.length+1:=by
   rw [← hK] at hmm ⊢
   by_cases h0:row.length=0
   ·rw [if_pos h0] at hmm;exact o600 _ _ _ _ hmm
   ·rw [if_neg h0]
  have hml:m<=row.length:=by exact o601 _ _ _ _ hmm hmn
  have hrg:∀ b,lrule row pic m=b->((List.range (m+1)).filter (lrule row pic)).map zX=((List.range m).filter (lrule row pic)).map zX++(if b=true then [zX m] else []):=fun b hb=>by
   rw [List.range_succ,List.filter_append,List.map_append]
   congr 1
   cases b with
   | true=>rw [List.filter_cons_of_pos (by exact hb)];rfl
   | false=>rw [List.filter_cons_of_neg (by rw [hb];decide)];rfl
  have hfl:(((List.range m).filter (lrule row pic)).map zX).length<100000:=by rw [List.length_map];have:=List.length_filter_le (lrule row pic) (List.range m);rw [List.length_range] at this;exact o602 _ _ _ _ this hml hrl hl
  have hJ:((m:Nat):Int)+1=((m+1:Nat):Int):=by exact o394 _
  have skip:lrule row pic m=false->∃ m':Nat,m'<=K/\rng (((m:Nat):Int)+1) 1 j=rng (m':Nat) 1 (K-m')/\([("text",.ref tx),("pictures",.ref pc),("row",.ref ra),("found",.ref fa),("bases",.ref ba)]:Loc)=([("text",.ref tx),("pictures",.ref pc),("row",.ref ra),("found",.ref fa),("bases",.ref ba)]:Loc)/\σ' fa=some (.list (((List.range m').filter (lrule row pic)).map zX))/\(∀ b co,b≠fa->σ3 b=some co->σ' b=some co):=fun hb =>
   (xL (m+1) (o471 _ _ _ hml hmn) (by rw [hJ,show K-(m+1)=j by exact o99 _ _ _ hmm]) rfl (by rw [hrg _ hb,hfa];simp) hoth)
  have keep:lrule row pic m=true->∃ m':Nat,m'<=K/\rng (((m:Nat):Int)+1) 1 j=rng (m':Nat) 1 (K-m')/\([("text",.ref tx),("pictures",.ref pc),("row",.ref ra),("found",.ref fa),("bases",.ref ba)]:Loc)=([("text",.ref tx),("pictures",.ref pc),("row",.ref ra),("found",.ref fa),("bases",.ref ba)]:Loc)/\(upd σ' fa (.list (((List.range m).filter (lrule row pic)).map zX++[CV.int (m:Nat)]))) fa=some (.list (((List.range m').filter (lrule row pic)).map zX))/\(∀ b co,b≠fa->σ3 b=some co->(upd σ' fa (.list (((List.range m).filter (lrule row pic)).map zX++[CV.int (m:Nat)]))) b=some co):=fun hb =>
   (xL (m+1) (o471 _ _ _ hml hmn) (by rw [hJ,show K-(m+1)=j by exact o99 _ _ _ hmm]) rfl (by rw [hrg _ hb,zb];simp [zX]) (fun b co h1 h2=>zn h1 (hoth b co h1 h2)))
  fail "g"
  refine yM ?_
  unfold lrule at skip keep
  with_reducible refine' pT (vz (bs:=[decide (m=0),decide (m=row.length)]) ?a1 ⟨rfl,rfl⟩) ?_ ?_
  case a1 =>
   refine ⟨?_,fun _=>⟨?_,fun _=>trivial⟩⟩
   ·fail "g"
    refine ⟨?_,rfl⟩
    rw [Bool.eq_iff_iff];simp
   ·fail "g"
    fail "n";refine xR htx' ?_
    fail "g"
    refine ⟨?_,rfl⟩
    rw [List.length_map,← hrl,Bool.eq_iff_iff];simp;exact o603 _ _
  ·intro ht
   have ht':m=0∨m=row.length:=by simpa using ht
   fail "g"
   refine MethTo.of (zA hfa) (zP) ?_
   fail "g"
   fail "n";refine y0 hfa hfl ?_
   refine ⟨rfl,?_⟩
   fail "g"
   exact (z0 ([("text",.ref tx),("pictures",.ref pc),("row",.ref ra),("found",.ref fa),("bases",.ref ba)]) (⟨rfl,rfl,rfl,rfl,rfl,trivial⟩) (keep (by rw [if_pos ht'])))
  intro hf
  have hf':¬ (m=0∨m=row.length):=fun z=>by rcases z with z | z <;> simp [z] at hf
  rw [if_neg hf'] at skip keep
  have h0:0<m:=by exact o604 _ _ hf'
  have hi:m<row.length:=by exact o605 _ _ hml hf'
  have hprev:(row.map CV.str)[((m:Nat):Int).toNat-1]?=some (.str (ze row ((m:Int)-1))):=by
   have:=uL (row:=row) (i:=m-1) (o569 _ _ hi)
   rw [show (((m-1:Nat):Int))=(m:Int)-1 by exact o570 _ h0] at this
   rw [show ((m:Nat):Int).toNat-1=((m:Int)-1).toNat by exact o606 _]
   exact this
  have hprev':(row.map CV.str)[(((m:Nat):Int)-1).toNat]?=some (.str (ze row ((m:Int)-1))):=by
   rw [show (((m:Nat):Int)-1).toNat=((m:Nat):Int).toNat-1 by exact o607 _];exact hprev
  clear hf hprev
  generalize hpv:ze row ((m:Int)-1)=pv at *
  have hhere:=uL hi
  generalize hhr:ze row (m:Nat)=hr at *
  fail "g"
  fail "n";with_reducible refine' y4 (zJ (bs:=[pv=="CR",hr=="LF"]) ?a2 ⟨rfl,rfl⟩) ?_ ?_
  case a2 =>
   refine ⟨?_,fun _=>⟨?_,fun _=>trivial⟩⟩
   ·fail "g"
    fail "n";refine zD (fun _ _=>rfl) hra (o279 _ h0) (cv:=.str pv) hprev' ?_
    fail "o"
   ·fail "g"
    fail "n";refine zD (fun _ _=>rfl) hra (o162 _) (cv:=.str hr) hhere ?_
    fail "o"
  ·intro ht
   have ht':(pv=="CR"&&hr=="LF")=true:=by
    rw [← ht]
    simp only [List.all_cons,List.all_nil,id,Bool.and_true]
   rw [if_pos ht'] at skip
   fail "g"
   exact (z0 ([("text",.ref tx),("pictures",.ref pc),("row",.ref ra),("found",.ref fa),("bases",.ref ba)]) (⟨rfl,rfl,rfl,rfl,rfl,trivial⟩) (skip rfl))
  intro hf
  have hf':(pv=="CR"&&hr=="LF")=false:=by
   rw [← hf]
   simp only [List.all_cons,List.all_nil,id,Bool.and_true]
  rw [if_neg (by rw [hf'];decide)] at skip keep
  clear hf hf'
  fail "g"
  fail "n";with_reducible refine' y4 (vz (bs:=[ENDS.contains pv,ENDS.contains hr]) ?a3 ⟨rfl,rfl⟩) ?_ ?_
  case a3 =>
   refine ⟨?_,fun _=>⟨?_,fun _=>trivial⟩⟩
   ·fail "g"
    fail "n";refine zD (fun _ _=>rfl) hra (o279 _ h0) (cv:=.str pv) hprev' ?_
    fail "g"
    refine ⟨by fail "t",?_⟩
    fail "n";refine vm (xs:=ENDS) ?_
    fail "o"
   ·fail "g"
    fail "n";refine zD (fun _ _=>rfl) hra (o162 _) (cv:=.str hr) hhere ?_
    fail "g"
    refine ⟨by fail "t",?_⟩
    fail "n";refine vm (xs:=ENDS) ?_
    fail "o"
  ·intro ht
   have ht':(ENDS.contains pv || ENDS.contains hr)=true:=by
    rw [← ht]
    simp only [List.any_cons,List.any_nil,id,Bool.or_false]
   rw [if_pos ht'] at keep
   fail "g"
   refine MethTo.of (zA hfa) (zP) ?_
   fail "g"
   fail "n";refine y0 hfa hfl ?_
   refine ⟨rfl,?_⟩
   fail "g"
   exact (z0 ([("text",.ref tx),("pictures",.ref pc),("row",.ref ra),("found",.ref fa),("bases",.ref ba)]) (⟨rfl,rfl,rfl,rfl,rfl,trivial⟩) (keep rfl))
  intro hf
  have hf':(ENDS.contains pv || ENDS.contains hr)=false:=by
   rw [← hf]
   simp only [List.any_cons,List.any_nil,id,Bool.or_false]
  rw [if_neg (by rw [hf'];decide)] at skip keep
  clear hf hf'
  fail "g"
  fail "n";with_reducible refine' y4 (vz (bs:=[[pv=="ZWJ",pic m].all id,[pv=="WSegSpace",hr=="WSegSpace"].all id]) ?a4 ⟨rfl,rfl⟩) ?_ ?_
  case a4 =>
   refine ⟨?_,fun _=>⟨?_,fun _=>trivial⟩⟩
   ·with_reducible refine' zJ (bs:=[pv=="ZWJ",pic m]) ?u1 ⟨rfl,rfl⟩
    case u1 =>
     refine ⟨?_,fun _=>⟨?_,fun _=>trivial⟩⟩
     ·fail "g"
      fail "n";refine zD (fun _ _=>rfl) hra (o279 _ h0) (cv:=.str pv) hprev' ?_
      fail "o"
     ·fail "g"
      fail "n";refine zD (fun _ _=>rfl) htx' (o162 _) (cv:=.int (text.getD m 0)) (jo (o29 _ _ _ hi hrl)) ?_
      fail "g"
      fail "n";refine iY hpc' ?_
      rw [← hpicm]
      fail "o"
   ·with_reducible refine' zJ (bs:=[pv=="WSegSpace",hr=="WSegSpace"]) ?u2 ⟨rfl,rfl⟩
    case u2 =>
     refine ⟨?_,fun _=>⟨?_,fun _=>trivial⟩⟩
     ·fail "g"
      fail "n";refine zD (fun _ _=>rfl) hra (o279 _ h0) (cv:=.str pv) hprev' ?_
      fail "o"
     ·fail "g"
      fail "n";refine zD (fun _ _=>rfl) hra (o162 _) (cv:=.str hr) hhere ?_
      fail "o"
  ·intro ht
   have ht':((pv=="ZWJ"&&pic m) || (pv=="WSegSpace"&&hr=="WSegSpace"))=true:=by
    rw [← ht]
    simp only [List.any_cons,List.any_nil,List.all_cons,List.all_nil,id,Bool.and_true,Bool.or_false]
   rw [if_pos ht'] at skip
   fail "g"
   exact (z0 ([("text",.ref tx),("pictures",.ref pc),("row",.ref ra),("found",.ref fa),("bases",.ref ba)]) (⟨rfl,rfl,rfl,rfl,rfl,trivial⟩) (skip rfl))
  intro hf
  have hf':((pv=="ZWJ"&&pic m) || (pv=="WSegSpace"&&hr=="WSegSpace"))=false:=by
   rw [← hf]
   simp only [List.any_cons,List.any_nil,List.all_cons,List.all_nil,id,Bool.and_true,Bool.or_false]
  rw [if_neg (by rw [hf'];decide)] at skip keep
  clear hf hf'
  fail "g"
  refine yM ?_
  have hbm:(bsl row).contains m=!alg row m:=by
   unfold bsl
   rw [Bool.eq_iff_iff,List.contains_iff_mem,List.mem_filter,List.mem_range]
   exact ⟨fun z=>z.2,fun z=>⟨hi,z⟩⟩
  have hbm':((bsl row).map fun (w:Nat)=>(w:Int)).contains (m:Int)=!alg row m:=by
   rw [← hbm,Bool.eq_iff_iff,List.contains_iff_mem,List.contains_iff_mem,List.mem_map]
   exact ⟨fun q415=>za q415 fun x h1 h2=>(by have:x=m:=(o578 _ _ h2);rw [← this];exact h1),fun z=>(z0 m z rfl)⟩
  with_reducible refine' pT (zJ (bs:=[!alg row m,!lwhole row m]) ?a5 ⟨rfl,rfl⟩) ?_ ?_
  case a5 =>
   refine ⟨?_,fun hal=>⟨?_,fun _=>trivial⟩⟩
   ·fail "g"
    fail "n";refine iY (xs:=(bsl row).map fun (w:Nat)=>(w:Int)) (by rw [← yZ];exact hba') ?_
    rw [hbm']
    fail "o"
   ·have hal':alg row m=false:=by simpa using hal
    fail "g"
    fail "n";refine (n9 (n:=n+1) hra hba' h0 hi hal' ?_).ow
    fail "o"
  ·intro ht
   have ht':(!alg row m&&!lwhole row m)=true:=by
    rw [← ht]
    simp only [List.all_cons,List.all_nil,id,Bool.and_true]
   fail "g"
   refine MethTo.of (zA hfa) (zP) ?_
   fail "g"
   fail "n";refine y0 hfa hfl ?_
   refine ⟨rfl,?_⟩
   fail "g"
   exact (z0 ([("text",.ref tx),("pictures",.ref pc),("row",.ref ra),("found",.ref fa),("bases",.ref ba)]) (⟨rfl,rfl,rfl,rfl,rfl,trivial⟩) (keep ht'))
  intro hf
  have hf':(!alg row m&&!lwhole row m)=false:=by
   rw [← hf]
   simp only [List.all_cons,List.all_nil,id,Bool.and_true]
  fail "g"
  exact (z0 ([("text",.ref tx),("pictures",.ref pc),("row",.ref ra),("found",.ref fa),("bases",.ref ba)]) (⟨rfl,rfl,rfl,rfl,rfl,trivial⟩) (skip hf'))
end

section
variable {y:CW} {n:Nat} {σ:Sto} {Q:CV->Sto->Prop}
noncomputable def LARGE:List (Int × CV):=[(97,.int 65),(98,.int 66),(115,.int 83),(452,.int 453),(454,.int 453)]
noncomputable def SMALL:List (Int × CV):=[(65,.int 97),(66,.int 98),(83,.int 115),(452,.int 454),(453,.int 454)]
theorem rC (k:Int):(LARGE.lookup k).getD (.int k)=.int (stl k):=by
 unfold stl LARGE
 simp only [List.lookup_cons,List.lookup_nil]
 repeat' split
 all_goals first | rfl | (simp_all;done) | (exfalso;simp_all;omega)
theorem rD (k:Int):(SMALL.lookup k).getD (.int k)=.int (low k):=by
 unfold low SMALL
 simp only [List.lookup_cons,List.lookup_nil]
 repeat' split
 all_goals first | rfl | (simp_all;done) | (exfalso;simp_all;omega)
theorem pq (b:Bool) (c:Int) (Y:List Int):yk b (c::Y)=if casd c=true then (if b=true then [low c] else ttl c)::yk true Y else [c]::yk b Y:=rfl
theorem nc {tx:Addr} {text:List Int} (htx:σ tx=some (.list (text.map .int))) (hl:text.length<=500)
  (h:∀ σ' b,Same [] σ σ'->σ b=none->σ' b=some (.list ((yk false text).map yJ))->Q (.ref b) σ'):OCd y.c (n+3) [.ref tx] (.ref 536) Q σ:=by
 refine wfD (fa:=536) rfl (by kernel_rfl) _ (zq (bd1 fun v=>rfl)) (by kernel_rfl) fun L=>?_
 fail "g"
 refine (zN LARGE rfl (by decide) (by decide) (fun ld ep nld=>?_))
 fail "g"
 refine ⟨by fail "t",fun fa nfa=>?_⟩
 fail "g"
 refine ⟨by fail "t",(zt _ rfl rfl (?_))⟩
 fail "g"
 have hne:ld≠fa:=zf (zb _ _ _) nfa
 have htf:tx≠fa:=zf (zk htx nld) nfa
 have nfa0:σ fa=none:=(zi nfa).1
 have hld1:upd (upd σ ld (CO.idict LARGE ep)) fa (CO.list []) ld=some (.idict LARGE ep):=zk (zb _ _ _) nfa
 have hfa1:upd (upd σ ld (CO.idict LARGE ep)) fa (CO.list []) fa=some (.list []):=zb _ _ _
 have sm1:Same [] σ (upd (upd σ ld (CO.idict LARGE ep)) fa (CO.list [])):=Same.newU (Same.newU Same.refl nld) nfa
 show WSS _ _ _ _ _ _ _ _
 generalize upd (upd σ ld (CO.idict LARGE ep)) fa (CO.list [])=σ1 at *
 fail "n";with_reducible refine' yI (wm ?_) ?hs1
 case hs1=>exact fun _=>rfl
 fail "g"
 refine ⟨_,_,zK (sm1 _ _ (by simp) htx),fun xs ρ' σ'=>∃ (R:List Int) (F:List (List Int)) (b:Bool),xs=R.map CV.int/\ρ'=([("text",.ref tx),("large",.ref ld),("found",.ref fa),("is_begun",.bool b)]:Loc)/\σ' fa=some (.list (F.map yJ))/\F++yk b R=yk false text/\F.length+R.length=text.length/\(∀ b co,b≠fa->σ1 b=some co->σ' b=some co),
  (z0 ([("text",.ref tx),("large",.ref ld),("found",.ref fa),("is_begun",.bool false)]) (⟨rfl,rfl,rfl,rfl,trivial⟩) (xN text ([]) false rfl rfl hfa1 rfl (by simp) (fun _ _ _ e=>e))),?_⟩
 intro T hT;intro xs ρ' σ' z1;refine tJ (z1) ?_;intro R F b q416 q417 hfa hF hFl hoth;obtain rfl:=q416;obtain rfl:=q417
 refine ⟨hoth _ _ htf (sm1 _ _ (by simp) htx),?_⟩
 have hld:=hoth _ _ hne hld1
 cases R with
 | nil =>
  simp only [List.map_nil]
  fail "g"
  refine h σ' fa (fun a co _ e=>hoth a co (zf e nfa0) (sm1 _ _ (by simp) e)) nfa0 ?_
  rw [hfa,← hF];simp [yk]
 | cons k R =>
  simp only [List.map_cons]
  simp only [List.length_cons] at hFl
  rw [pq] at hF
  fail "g"
  fail "if"
  fail "g"
  fail "n";refine (xJ (n:=n+1) fun la nla=>?_).ow
  have hlf:fa≠la:=zf hfa nla
  have hfa2:upd σ' la (CO.list (LET.map CV.int)) fa=some (.list (F.map yJ)):=zk hfa nla
  have hla2:upd σ' la (CO.list (LET.map CV.int)) la=some (.list (LET.map CV.int)):=zb _ _ _
  have hoth2:∀ b co,b≠fa->σ1 b=some co->upd σ' la (CO.list (LET.map CV.int)) b=some co:=fun b co h1 h2=>zk (hoth b co h1 h2) nla
  have hld2:=hoth2 _ _ hne hld1
  generalize upd σ' la (CO.list (LET.map CV.int))=σ2 at *
  have hfl:(F.map yJ).length<100000:=by rw [List.length_map];exact o608 _ _ _ hFl hl
  have next:∀ (σ3:Sto) (z:List Int) (b':Bool),σ3 fa=some (.list (F.map yJ++[yJ z]))->F++z::yk b' R=yk false text->(∀ b co,b≠fa->σ1 b=some co->σ3 b=some co) ->
    ∃ (R':List Int) (F:List (List Int)) (b'':Bool),R.map CV.int=R'.map CV.int/\([("text",.ref tx),("large",.ref ld),("found",.ref fa),("is_begun",.bool b')]:Loc)=([("text",.ref tx),("large",.ref ld),("found",.ref fa),("is_begun",.bool b'')]:Loc)/\σ3 fa=some (.list (F.map yJ))/\F++yk b'' R'=yk false text/\F.length+R'.length=text.length/\(∀ b co,b≠fa->σ1 b=some co->σ3 b=some co):=fun σ3 z b' h1 h2 h3 =>
   (xN R (F++[z]) b' rfl rfl (by rw [h1];simp) (by rw [← h2];simp) (by simp;exact o244 _ _ _ hFl) h3)
  fail "n";refine mH hla2 ?_
  fail "g"
  have hcd:LET.contains k=casd k:=rfl
  rw [hcd]
  cases hc:casd k with
  | false =>
   rw [if_neg (by rw [hc];decide)] at hF
   fail "g"
   refine MethTo.of (zA hfa2) (zP) ?_
   fail "g"
   refine ⟨by fail "t",?_⟩
   fail "g"
   fail "n";refine y0 hfa2 hfl ?_
   refine ⟨rfl,?_⟩
   fail "g"
   exact (z0 ([("text",.ref tx),("large",.ref ld),("found",.ref fa),("is_begun",.bool b)]) (⟨rfl,rfl,rfl,rfl,trivial⟩) (next _ [k] b (zb _ _ _) hF fun b co h1 h2=>zn h1 (hoth2 b co h1 h2)))
  | true =>
   rw [if_pos hc] at hF
   fail "g"
   fail "if"
   fail "g"
   cases b with
   | true =>
    rw [if_pos rfl] at hF
    fail "g"
    refine MethTo.of (zA hfa2) (zP) ?_
    fail "g"
    refine (zN SMALL rfl (by decide) (by decide) (fun sd ep2 nsd=>?_))
    refine MethTo.of (tX (zb _ _ _)) (zP) ?_
    fail "g"
    fail "n";refine nN (zb _ _ _) ?_
    rw [rD]
    fail "g"
    refine ⟨by fail "t",?_⟩
    fail "g"
    have hfa3:=zk (co:=CO.idict SMALL ep2) hfa2 nsd
    fail "n";refine y0 hfa3 hfl ?_
    refine ⟨rfl,?_⟩
    fail "g"
    exact (z0 ([("text",.ref tx),("large",.ref ld),("found",.ref fa),("is_begun",.bool true)]) (⟨rfl,rfl,rfl,rfl,trivial⟩) (next _ [low k] true (zb _ _ _) hF fun b co h1 h2=>zn h1 (zk (hoth2 b co h1 h2) nsd)))
   | false =>
    rw [if_neg (by decide)] at hF
    fail "g"
    refine MethTo.of (zA hfa2) (zP) ?_
    fail "g"
    unfold ttl at hF
    by_cases h2:k=223
    ·rw [if_pos h2] at hF
     first | refine Br.yes h2 ?_ | refine Br.eqT h2 ?_ | refine Br.zT h2 ?_ | refine Br.pos (by simpa using h2) ?_
     fail "g"
     refine ⟨by fail "t",?_⟩
     fail "g"
     fail "n";refine y0 hfa2 hfl ?_
     refine ⟨rfl,?_⟩
     fail "g"
     exact (z0 ([("text",.ref tx),("large",.ref ld),("found",.ref fa),("is_begun",.bool true)]) (⟨rfl,rfl,rfl,rfl,trivial⟩) (next _ [83,115] true (zb _ _ _) hF fun b co h1 h2=>zn h1 (hoth2 b co h1 h2)))
    ·rw [if_neg h2] at hF
     first | refine Br.no h2 ?_ | refine Br.eqF h2 ?_ | refine Br.zF h2 ?_ | refine Br.nay (by simpa using h2) ?_
     fail "g"
     refine MethTo.of (tX hld2) (zP) ?_
     fail "g"
     fail "n";refine nN hld2 ?_
     rw [rC]
     fail "g"
     refine ⟨by fail "t",?_⟩
     fail "g"
     fail "n";refine y0 hfa2 hfl ?_
     refine ⟨rfl,?_⟩
     fail "g"
     exact (z0 ([("text",.ref tx),("large",.ref ld),("found",.ref fa),("is_begun",.bool true)]) (⟨rfl,rfl,rfl,rfl,trivial⟩) (next _ [stl k] true (zb _ _ _) hF fun b co h1 h2=>zn h1 (hoth2 b co h1 h2)))
end

section
variable {y:CW} {n:Nat} {σ:Sto} {Q:CV->Sto->Prop}
structure LD (σ:Sto) (dk ca d sl:Addr) (sf:Int->Str) (pics:List Int) (T:Nat):Prop where
 deck:DeckAt σ dk ca T
 data:∃ keep,LawData keep σ d sl sf pics/\keep dk≠none/\keep ca≠none
theorem LD.same {σ':Sto} {dk ca d sl:Addr} {sf:Int->Str} {pics:List Int} {T:Nat} (W:LD σ dk ca d sl sf pics T) (s:Same [] σ σ'):LD σ' dk ca d sl sf pics T:=by
 refine zm (W.data) ?_;intro keep q418 h1 h2;obtain ⟨⟨N,M,G,D,r⟩,hs⟩:=q418
 exact ⟨W.deck.same s,keep,⟨(xM N M G (D.same s) r),s _ _ (by simp) hs⟩,h1,h2⟩
theorem DataIs.bar {keep σ':Sto} {dk ca d:Addr} {N M:Nat} {G:Str->Int->CV} (D:DataIs keep σ d N M G) (h1:keep dk≠none) (h2:keep ca≠none) (br:Bar dk ca σ σ'):DataIs (fun a=>if (keep a).isSome=true then σ' a else none) σ' d N M G:=by
 refine x5 (D) ?_;intro ddx df mp L D hl hG
 have off:∀ a,keep a≠none->¬ (a∈[d,ddx,df,mp]∨∃ e∈L,a∈e.foot):=fun a ha hin=>by
  obtain ⟨co,hco⟩:=Option.ne_none_iff_exists'.mp ha
  refine zh (D.kept a co hco) ?_;intro _ k1 k2
  rcases hin with h | ⟨e,he,h⟩
  ·exact k1 h
  ·exact k2 e he h
 refine (wg ddx df mp L (D.to (fun a co hin e=>br a co (fun z=>off a (z ▸ h1) hin) (fun z=>off a (z ▸ h2) hin) e) (fun a co h=>?_)) hl hG)
 by_cases hs:(keep a).isSome=true
 ·rw [if_pos hs] at h
  have hn:keep a≠none:=by rw [Option.isSome_iff_ne_none] at hs;exact hs
  exact ⟨h,fun z=>off a hn (.inl z),fun e he z=>off a hn (.inr (z0 e he z))⟩
 ·rw [if_neg hs] at h;cases h
theorem LD.bar {σ':Sto} {dk ca d sl:Addr} {sf:Int->Str} {pics:List Int} {T T':Nat} (W:LD σ dk ca d sl sf pics T) (br:Bar dk ca σ σ') (D':DeckAt σ' dk ca T'):LD σ' dk ca d sl sf pics T':=by
 refine zm (W.data) ?_;intro keep q419 h1 h2;obtain ⟨⟨N,M,G,D,r⟩,hs⟩:=q419
 have e1:sl≠dk:=by
  refine yd (W.deck.dk) ?_;intro m t ep h _
  rintro rfl;rw [h] at hs;cases hs
 have e2:sl≠ca:=by
  refine za (W.deck.ca) ?_;intro cs h _
  rintro rfl
  rw [h] at hs
  cases cs <;> simp at hs
 have f:∀ a co,keep a≠none->σ' a=some co->(fun a=>if (keep a).isSome=true then σ' a else none) a≠none:=fun a co hn e=>by
  show (if (keep a).isSome=true then σ' a else none)≠none
  rw [if_pos (Option.isSome_iff_ne_none.mpr hn),e];simp
 refine yd (D'.dk) ?_;intro m t ep q1 _
 refine za (D'.ca) ?_;intro cs q2 _
 exact ⟨D',_,⟨(xM N M G (D.bar h1 h2 br) r),br _ _ e1 e2 hs⟩,f _ _ h1 q1,f _ _ h2 q2⟩
theorem LD.word {dk ca d sl tx:Addr} {sf:Int->Str} {pics:List Int} {T:Nat} {text:List Int} (W:LD σ dk ca d sl sf pics T) (htx:σ tx=some (.list (text.map .int))) (hS:∀ k∈text,k∈xh) (hl:text.length<=1000):WordCtx σ tx d text (text.map sf) (yK pics text):=by
 refine zm (W.data) ?_;intro keep q420 h1 h2;obtain ⟨⟨N,M,G,D,hN,r⟩,hs⟩:=q420
 refine ⟨htx,(wg keep N M G D hN (fun i k e=>?_)),by rw [List.length_map],hl⟩
 obtain ⟨hi,hk⟩:=List.getElem?_eq_some_iff.mp e
 refine yL (r k (hS k (List.mem_of_getElem? e))) ?_;intro r0 r1 r2 _
 refine ⟨r0,?_,?_⟩
 ·rw [r1,zr (by rw [List.length_map];exact hi),List.getElem_map,hk]
 ·rw [r2]
  show _=CV.bool (pics.contains (text.getD i 0))
  rw [List.getD_eq_getElem?_getD,e];rfl
theorem LD.case {dk ca d sl:Addr} {sf:Int->Str} {pics:List Int} {T:Nat} (W:LD σ dk ca d sl sf pics T):CaseCtx σ d sl xh:=by
 refine zm (W.data) ?_;intro keep q421 h1 h2;obtain ⟨⟨N,M,G,D,hN,r⟩,hs⟩:=q421
 exact ⟨(wg keep N M G D hN (fun k hk=>yL (r k hk) fun r0 r1 r2 r3=>⟨r0,r3⟩)),hs⟩
noncomputable def gk (i:Nat):CV->Bool | .int w=>decide (w<=(i:Int)) | _=>false
noncomputable def past (i:Nat):CV->Bool | .int w=>decide ((i:Int)<w) | _=>false
theorem nh (i:Nat) (l:List Nat):((l.map zX).filter (gk i)).map (fun v=>v)=(l.filter fun j=>decide (j<=i)).map zX:=by
 rw [List.map_id',List.filter_map]
 congr 1
 refine List.filter_congr fun w _=>?_
 show decide (((w:Nat):Int)<=(i:Nat))=_
 rw [Bool.eq_iff_iff];simp
theorem ni (i:Nat) (l:List Nat):((l.map zX).filter (past i)).map (fun v=>v)=(l.filter fun j=>decide (i<j)).map zX:=by
 rw [List.map_id',List.filter_map]
 congr 1
 refine List.filter_congr fun w _=>?_
 show decide (((i:Nat):Int)<(w:Nat))=_
 rw [Bool.eq_iff_iff];simp
theorem tG (row:List Str) (pic:Nat->Bool):(bnd row pic).length<=row.length+1:=by unfold bnd;exact Nat.le_trans (List.length_filter_le _ _) (by simp)
theorem y7 (l:List Nat):wN (l.map zX)=some (l.map fun w=>PyData.int (w:Nat)):=by
 rw [yZ,zG,List.map_map];rfl
theorem yj (l:List Nat):SeqAt.shaped (.list (l.map fun w=>PyData.int (w:Nat)))=true:=by
 have:=zU (l.map fun (w:Nat)=>(w:Int))
 rw [List.map_map] at this;exact this
theorem jC (l:List CV) (x:CV):(l++[x])[((-1:Int)+((l++[x]).length:Nat)).toNat]?=some x:=by
 rw [show ((-1:Int)+((l++[x]).length:Nat)).toNat=l.length by simp;exact o609 _];simp
theorem iV (l:List CV) (x z:CV):(l++[x,z])[((-2:Int)+((l++[x,z]).length:Nat)).toNat]?=some x:=by
 rw [show ((-2:Int)+((l++[x,z]).length:Nat)).toNat=l.length by simp;exact o610 _];simp
theorem nj {dk ca d sl tx du:Addr} {sf:Int->Str} {pics:List Int} {T:Nat} {text:List Int} (W:LD σ dk ca d sl sf pics T) (hT:T<=800) (htx:σ tx=some (.list (text.map .int))) (ht1:tx≠ca) (hS:∀ k∈text,k∈xh) (hl:text.length<=400) (hn:0<text.length)
  (hdu:σ du=some (.list ((bnd (text.map sf) (yK pics text)).map zX))) (hd1:du≠ca)
  (h:∀ σ',LD σ' dk ca d sl sf pics (T+1)->Bar dk ca σ σ'->Q (.bool true) σ'):OCd y.c (n+13) [.ref dk,.ref tx,.ref d,.ref du] (.ref 541) Q σ:=by
 refine mF (fa:=541) rfl (by kernel_rfl) _ (bd4 (fun v w x z=>rfl)) (by kernel_rfl) (fun L=>by kernel_rfl) fun L=>?_
 have ht2:tx≠dk:=by
  refine yd (W.deck.dk) ?_;intro m t ep h _
  rintro rfl;rw [h] at htx;cases htx
 have hd2:du≠dk:=by
  refine yd (W.deck.dk) ?_;intro m t ep h _
  rintro rfl;rw [h] at hdu;cases hdu
 fail "g"
 fail "n";refine xR htx ?_
 fail "g"
 fail "n";refine (vR (n:=n+11) W.deck (o611 _ hT) (by rw [List.length_map];exact o612 _) (by rw [List.length_map];exact o613 _ hl) fun σ1 v D1 br1 h0 hlt=>?_).ow
 rw [List.length_map] at hlt
 have htx1:=br1 _ _ ht2 ht1 htx
 have hdu1:=br1 _ _ hd2 hd1 hdu
 have W1:=W.bar br1 D1
 obtain ⟨i,rfl⟩:=Int.eq_ofNat_of_zero_le h0
 have hi:i<=text.length:=by exact o614 _ _ hlt
 clear h0 hlt W htx hdu D1
 have WC:=W1.word htx1 hS (o615 _ hl)
 have hrl:(text.map sf).length=text.length:=by rw [List.length_map]
 generalize text.map sf=row at *
 generalize yK pics text=pic at *
 have hbl:=tG row pic
 fail "g"
 have hu:=qW (pic:=pic) (i:=i) (row:=row) (o240 _ _ hn hrl) (o364 _ _ _ hi hrl)
 fail "n";with_reducible refine' ye (fv:=[("at",.int i)]) ?ok1 ?hs1 ?_
 case ok1 =>
  refine ⟨rfl,of_decide_eq_true (by kernel_rfl),rfl,?_,?_,?_⟩
  ·decide +kernel
  ·intro e he;rw [List.mem_singleton] at he;subst he;exact ⟨rfl,zx rfl,zx rfl,rfl⟩
  ·intro e he;rw [List.mem_singleton] at he;subst he;rfl
 case hs1=>exact fun _=>rfl
 refine wm ?_
 fail "g"
 refine (zj _ _ (zK hdu1) (by rw [List.length_map];exact o616 _ _ _ hbl hrl hl) (zV (gk i) (fun v=>v) (?_) (fun b1 nb1=>?_)))
 ·intro v hv C
  refine za (List.mem_map.mp hv) ?_;intro w hw q423;obtain rfl:=q423
  show WA _ _ _ _ _ (CV.int ((w:Nat):Int)) _ _ _
  fail "g"
  refine ⟨rfl,⟨rfl,trivial⟩,sV ?_⟩
  fail "g"
  refine ⟨rfl,rfl,fun _=>?_⟩
  fail "g"
  exact ⟨rfl,rfl⟩
 rw [nh]
 fail "g"
 obtain ⟨pre,hpre⟩:=List.getLast?_eq_some_iff.mp hu
 rw [hpre,List.map_append]
 fail "n";refine vp (fun _ _=>rfl) (zb _ _ _) (by decide) (by simp;exact o617 _) (cv:=zX (pbegin row pic i)) (jC _ _) ?_
 have sm2:Same [] σ1 (upd σ1 b1 (CO.list (List.map zX pre++List.map zX [pbegin row pic i]))):=Same.newU Same.refl nb1
 generalize upd σ1 b1 (CO.list (List.map zX pre++List.map zX [pbegin row pic i]))=σ2 at *
 have hdu2:=sm2 _ _ (by simp) hdu1
 fail "g"
 fail "n";(with_reducible refine xr ?_);with_reducible refine' y9 (fv:=[("at",.int i)]) ?sw2 ?ok2 ?hs2 ?_
 case sw2=>exact rfl
 case ok2 =>
  refine ⟨rfl,of_decide_eq_true (by kernel_rfl),rfl,?_,?_,?_⟩
  ·decide +kernel
  ·intro e he;rw [List.mem_singleton] at he;subst he;exact ⟨rfl,zx rfl,zx rfl,rfl⟩
  ·intro e he;rw [List.mem_singleton] at he;subst he;rfl
 case hs2=>exact fun _=>rfl
 refine wm ?_
 fail "g"
 refine (zj _ _ (zK hdu2) (by rw [List.length_map];exact o616 _ _ _ hbl hrl hl) (zV (past i) (fun v=>v) (?_) (fun b2 nb2=>?_)))
 ·intro v hv C
  refine za (List.mem_map.mp hv) ?_;intro w hw q424;obtain rfl:=q424
  show WA _ _ _ _ _ (CV.int ((w:Nat):Int)) _ _ _
  fail "g"
  refine ⟨rfl,⟨rfl,trivial⟩,sV ?_⟩
  fail "g"
  refine ⟨rfl,rfl,fun _=>?_⟩
  fail "g"
  exact ⟨rfl,rfl⟩
 rw [ni]
 have sm3:Same [] σ1 (upd σ2 b2 (CO.list (List.map zX (List.filter (fun j=>decide (i<j)) (bnd row pic))))):=Same.newU sm2 nb2
 have hb2:upd σ2 b2 (CO.list (List.map zX (List.filter (fun j=>decide (i<j)) (bnd row pic)))) b2=some (.list ((List.filter (fun j=>decide (i<j)) (bnd row pic)).map zX)):=zb _ _ _
 generalize upd σ2 b2 (CO.list (List.map zX (List.filter (fun j=>decide (i<j)) (bnd row pic))))=σ3 at *
 have fin:∀ σ',Same [] σ3 σ'->Q (.bool true) σ':=fun σ' s=>h σ' (W1.same (sm3.trans s)) (br1.trans (Bar.same (sm3.trans s)))
 clear h
 fail "g"
 fail "if"
 fail "g"
 fail "n";refine (uu (n:=n+2) (i:=i) (WC.same sm3) fun σ4 sm4=>?_).ow
 fail "g"
 refine Br.neg (show (((pbegin row pic i:Nat):Int) != ((pbegin row pic i:Nat):Int))=false by simp) ?_
 fail "g"
 fail "n";refine (qO (n:=n+2) (i:=i) (WC.same (sm3.trans sm4)) fun σ5 sm5=>?_).ow
 have sm35:=sm4.trans sm5
 have smA:=sm3.trans sm35
 have hb5:=sm35 _ _ (by simp) hb2
 have htx5:=smA _ _ (by simp) htx1
 have hdu5:=smA _ _ (by simp) hdu1
 clear sm4 sm5 hb2
 fail "g"
 refine ⟨by fail "t",fun e1 ne1=>?_⟩
 fail "n";refine oNe (zo (zk hb5 ne1) (y7 _)) (zo (ds:=[]) (zb _ _ _) rfl) (yj _) rfl ?_
 fail "g"
 have hb6:=zk (co:=CO.list []) hb5 ne1
 have htx6:=zk (co:=CO.list []) htx5 ne1
 have hdu6:=zk (co:=CO.list []) hdu5 ne1
 have sm6:=Same.newU (co:=CO.list []) sm35 ne1
 have smB:=Same.newU (co:=CO.list []) smA ne1
 generalize upd σ5 e1 (CO.list [])=σ6 at *
 clear hb5 htx5 hdu5 sm35 smA ne1
 have eqe:∀ l:List Nat,(PyData.list (l.map fun w=>PyData.int (w:Nat))).eqv (.list [])=l.isEmpty:=fun l=>by cases l <;> simp [PyData.eqv,PyData.eqvAll]
 rw [eqe]
 by_cases hin:i<row.length
 ·have hh:=qX (pic:=pic) (i:=i) (row:=row) (o240 _ _ hn hrl) hin
  obtain ⟨rest,hrest⟩:∃ rest,(bnd row pic).filter (fun j=>decide (i<j))=pend row pic i::rest:=by
   cases hc:(bnd row pic).filter (fun j=>decide (i<j)) with
   | nil=>rw [hc] at hh;cases hh
   | cons a r=>rw [hc] at hh;simp at hh;subst hh;exact ⟨r,rfl⟩
  rw [hrest] at hb6 ⊢
  refine Br.pos (by rfl) ?_
  fail "g"
  fail "n";refine zD (fun _ _=>rfl) hb6 (by decide) (cv:=zX (pend row pic i)) (by simp) ?_
  refine Br.neg (show (((pend row pic i:Nat):Int) != ((pend row pic i:Nat):Int))=false by simp) ?_
  fail "g"
  fail "if"
  fail "g"
  refine ⟨by fail "t",fun e2 ne2=>?_⟩
  fail "n";refine oEq (zo (zk hb6 ne2) (y7 _)) (zo (ds:=[]) (zb _ _ _) rfl) (yj _) rfl ?_
  have hb7:=zk (co:=CO.list []) hb6 ne2
  have sm7:=Same.newU (co:=CO.list []) sm6 ne2
  have smC:=Same.newU (co:=CO.list []) smB ne2
  generalize upd σ6 e2 (CO.list [])=σ7 at *
  rw [eqe]
  fail "g"
  fail "n";refine (mm (n:=n+1) (i:=i) (WC.same smC) fun σ8 sm8=>?_).ow
  have hb8:=sm8 _ _ (by simp) hb7
  have hpa:xH row i=i:=by unfold xH;rw [if_neg (o618 _ _ hin)]
  rw [hpa]
  fail "g"
  fail "n";refine qi ?_
  fail "g"
  fail "n";refine zD (fun _ _=>rfl) hb8 (by decide) (cv:=zX (pend row pic i)) (by simp) ?_
  fail "g"
  refine ⟨by fail "t",?_⟩
  fail "n";refine oEq (da:=.tuple [.int (pbegin row pic i:Nat),.int (pend row pic i:Nat)]) (db:=.tuple [.int (pbegin row pic i:Nat),.int (pend row pic i:Nat)]) rfl rfl (by kernel_rfl) (by kernel_rfl) ?_
  fail "g"
  rw [show (PyData.tuple [.int (pbegin row pic i:Nat),.int (pend row pic i:Nat)]).eqv (.tuple [.int (pbegin row pic i:Nat),.int (pend row pic i:Nat)])=true by simp [PyData.eqv,PyData.eqvAll]]
  exact fin _ (sm7.trans sm8)
 ·have hie:i=row.length:=by exact o619 _ _ _ hi hrl hin
  rw [oJ hie] at hb6 ⊢
  refine Br.nay (by decide) ?_
  fail "g"
  fail "n";refine xR htx6 ?_
  fail "g"
  have hpe:pend row pic i=row.length:=by unfold pend;rw [if_pos (o89 _ _ hin)]
  refine Br.neg (by rw [hpe,List.length_map,hrl];simp) ?_
  fail "g"
  fail "if"
  fail "g"
  refine ⟨by fail "t",fun e2 ne2=>?_⟩
  fail "n";refine oEq (zo (zk hb6 ne2) (y7 _)) (zo (ds:=[]) (zb _ _ _) rfl) (yj _) rfl ?_
  have hdu7:=zk (co:=CO.list []) hdu6 ne2
  have sm7:=Same.newU (co:=CO.list []) sm6 ne2
  have smC:=Same.newU (co:=CO.list []) smB ne2
  generalize upd σ6 e2 (CO.list [])=σ7 at *
  rw [eqe]
  fail "g"
  fail "n";refine (mm (n:=n+1) (i:=i) (WC.same smC) fun σ8 sm8=>?_).ow
  have hdu8:=sm8 _ _ (by simp) hdu7
  have hpa:xH row i=row.length-1:=by unfold xH;rw [if_pos (o620 _ _ _ hn hrl hin)]
  rw [hpa,qY (o240 _ _ hn hrl)]
  obtain ⟨pre2,hpre2⟩:=lJ (row:=row) (pic:=pic) (o240 _ _ hn hrl)
  rw [hpre2,List.map_append] at hdu8
  fail "g"
  fail "n";refine qi ?_
  fail "g"
  fail "n";refine vp (fun _ _=>rfl) hdu8 (by decide) (by simp;exact o621 _) (cv:=zX (pbegin row pic (row.length-1))) (iV _ _ _) ?_
  fail "g"
  fail "n";refine vp (fun _ _=>rfl) hdu8 (by decide) (by simp;exact o622 _) (cv:=zX row.length) ?_ ?_
  ·have:=jC (pre2.map zX++[zX (pbegin row pic (row.length-1))]) (zX row.length)
   rw [List.append_assoc] at this
   exact this
  fail "g"
  refine ⟨by fail "t",?_⟩
  fail "n";refine oEq (da:=.tuple [.int (pbegin row pic (row.length-1):Nat),.int (row.length:Nat)]) (db:=.tuple [.int (pbegin row pic (row.length-1):Nat),.int (row.length:Nat)]) rfl rfl (by kernel_rfl) (by kernel_rfl) ?_
  fail "g"
  rw [show (PyData.tuple [.int (pbegin row pic (row.length-1):Nat),.int (row.length:Nat)]).eqv (.tuple [.int (pbegin row pic (row.length-1):Nat),.int (row.length:Nat)])=true by simp [PyData.eqv,PyData.eqvAll]]
  exact fin _ (sm7.trans sm8)
end

noncomputable def vX (sf:Int->Str) (pics:List Int) (text:List Int):List (List Int):=pcs text (bnd (text.map sf) (yK pics text))
theorem vV (sf:Int->Str) (pics:List Int) {text:List Int}:vX sf pics text=trn false ((fl (text.map fun k=>(sf k,pics.contains k))).zip text):=by
 by_cases hne:text=[]
 ·subst hne
  show pcs [] (bnd [] _)=_
  rw [tv];rfl
 obtain ⟨h1,h2⟩:=oA (sp:=fun k=>(sf k,pics.contains k)) hne (row:=text.map sf) (pic:=yK pics text) rfl (fun i k e=>by
  show pics.contains (text.getD i 0)=pics.contains k
  rw [List.getD_eq_getElem?_getD,e];rfl)
 unfold vX bnd
 rw [h1]
 exact lq (by rw [zS,List.length_map]) h2 hne
theorem rE {sf:Int->Str} {pics:List Int} (h:∀ k,casd k=true->sf k=AL/\pics.contains k=false) (text:List Int):(vX sf pics (vX sf pics text).flatten).flatten=(vX sf pics text).flatten:=by
 have hsp:∀ k,casd k=true->(fun k=>(sf k,pics.contains k)) k=(AL,false):=fun k hk=>by
  obtain ⟨a,b⟩:=h k hk
  show (sf k,pics.contains k)=_
  rw [a,b]
 have:=twice (sp:=fun k=>(sf k,pics.contains k)) hsp text
 rw [vV sf pics,vV sf pics]
 exact this
theorem nq {sf:Int->Str} {pics:List Int} {text:List Int} (hS:∀ k∈text,k∈xh):(∀ k∈(vX sf pics text).flatten,k∈xh)/\(vX sf pics text).flatten.length<=2*text.length:=by
 rw [vV sf pics]
 have hl:(fl (text.map fun k=>(sf k,pics.contains k))).length=text.length:=by rw [zS,List.length_map]
 have m2:((fl (text.map fun k=>(sf k,pics.contains k))).zip text).map (·.2)=text:=List.map_snd_zip (o230 _ _ hl)
 obtain ⟨h1,h2⟩:=tA ((fl (text.map fun k=>(sf k,pics.contains k))).zip text) false
 refine ⟨fun k hk=>?_,?_⟩
 ·rcases h1 k hk with h | h
  ·exact List.mem_append_left _ h
  ·rw [m2] at h;exact hS k h
 ·rw [List.length_zip,hl,Nat.min_self] at h2;exact h2
theorem nr {ps:List Str} {pics:List Int} (hpk:∀ k∈pics,768<=k/\k<777):∀ k,casd k=true->rJ ps k=AL/\pics.contains k=false:=fun k hk=>by
 have hlt:¬ 768<=k:=by
  refine yX (P:=fun k=>¬ 768<=k) hk ?_ ?_ ?_ ?_ ?_ ?_ ?_ ?_ ?_ ?_ <;> decide
 refine ⟨by unfold rJ;rw [if_neg hlt],?_⟩
 cases h:pics.contains k with
 | false=>rfl
 | true=>exact absurd (hpk k (List.contains_iff_mem.mp h)).1 hlt
theorem uM {sf:Int->Str} {pics:List Int} {text:List Int}:ptit text (sgs text.length (bnd (text.map sf) (yK pics text)))=vX sf pics text:=oI (by rw [List.length_map])

section
variable {y:CW} {n:Nat} {σ:Sto} {Q:CV->Sto->Prop}
theorem lP {c:Cx} {a b:CV} {da:PyData} (ha:wl σ a=some da) (hb:wl σ b=some da) (sa:SeqAt.shaped da=true) (h:Q (.bool true) σ):OW c n VR [a,b] (cmp .Eq) Q σ :=
 oEq ha hb sa sa (by rw [SeqAt.eqv_refl da (SeqAt.canLay_of_shaped sa)];exact h)
theorem wI {c:Cx} {a b:CV} {da:PyData} (ha:wl σ a=some da) (hb:wl σ b=some da) (sa:SeqAt.shaped da=true) (h:Q (.bool false) σ):OW c n VR [a,b] (cmp .NotEq) Q σ :=
 oNe ha hb sa sa (by rw [SeqAt.eqv_refl da (SeqAt.canLay_of_shaped sa)];exact h)
noncomputable def pyT (p:List Int):PyData:=.tuple (p.map .int)
theorem yw:∀ P:List (List Int),wN (P.map yJ)=some (P.map pyT)
 | []=>rfl
 | p::P=>by
  show ((wN (p.map .int)).map PyData.tuple).bind _=_
  rw [zG]
  exact congrArg (Option.map (pyT p::·)) (yw P)
theorem wJ:∀ P:List (List Int),PyData.canLayAll0 (P.map pyT)=true
 | []=>by simp [PyData.canLayAll0]
 | p::P=>by simp [PyData.canLayAll0,PyData.canLay0,pyT,xg,wJ P]
theorem v8:∀ P:List (List Int),PyData.depthAll (P.map pyT)<=1
 | []=>by simp [PyData.depthAll]
 | p::P=>by
  have:=v8 P
  simp [PyData.depthAll,PyData.depth,pyT,xI]
  first | exact o623 _ this | exact this
theorem wK (P:List (List Int)):SeqAt.shaped (.list (P.map pyT))=true:=by
 have:=v8 P
 unfold SeqAt.shaped
 simp [PyData.canLay0,wJ,PyData.depth]
 exact o624 _ this
noncomputable def pr2 (p:Nat × Nat):List Int:=[(p.1:Int),(p.2:Int)]
theorem sR (xs:List Nat):prs xs=((xs.zip xs.tail).map pr2).map yJ:=by unfold prs;rw [List.map_map];rfl
theorem lQ (xs:List Nat):(((xs.map fun (w:Nat)=>(w:Int)).zip (xs.tail.map fun (w:Nat)=>(w:Int))).map fun q=>CV.tup [.int q.1,.int q.2])=prs xs:=by
 unfold prs;rw [List.zip_map,List.map_map];rfl
theorem nu {ps:List Str} (hp:ps.length=9) {k:Int} (hk:k∈xh):(wEs ps).lookup k=some (.str (rJ ps k)):=by
 have hm:=mx hp hk
 have hn:=vS ps
 generalize wEs ps=l at *
 induction l with
 | nil=>cases hm
 | cons e r ih =>
  rw [List.map_cons,List.nodup_cons] at hn
  obtain ⟨a,b⟩:=e
  rw [List.lookup_cons]
  rcases List.mem_cons.mp hm with h | h
  ·cases h;simp
  ·have:(k==a)=false:=beq_eq_false_iff_ne.mpr fun e=>hn.1 (by
    subst e;exact List.mem_map.mpr (z0 _ h rfl))
   rw [this]
   exact ih h hn.2
noncomputable def MENU:List Int:=[97,65,98,223,83,454,452]++[768,769,770,771,772,773,774,775,776]
theorem rF:∀ k∈MENU,k∈xh:=by decide
end

section
variable {y:CW} {n:Nat} {Q:CV->Sto->Prop}
theorem lR {α:Type} (xs:List α):csl xs (some 1) none=xs.tail:=by
 cases xs with
 | nil=>simp [csl]
 | cons a r=>rw [yo (by decide) (by simp;exact o617 _)];rfl
theorem theLaw {sc:Addr} {script:List Int} (hsc:sY y.c sc (script.map .int)) (hl:script.length<=63) (h:∀ σ',Q (.bool true) σ'):OCd y.c (n+15) [.ref sc] (.ref 546) Q emp:=by
 refine mF (fa:=546) rfl (by kernel_rfl) _ (bd1 (fun v=>rfl)) (by kernel_rfl) (fun L=>by kernel_rfl) fun L=>?_
 fail "g"
 fail "n";refine (lK (n:=n+13) hsc hl fun σ1 dk ca D1 _ _ _=>?_).ow
 fail "g"
 fail "n";refine (oL (n:=n+11) D1 fun σ2 sd pc ps pics ep D2 br2 nsd npc hsd hps hpsS hpc hpk hpl=>?_).ow
 have hpcca:pc≠ca:=by
  refine za (D1.ca) ?_;intro cs h _
  exact (zf h npc).symm
 clear D1 br2 nsd npc
 fail "g"
 fail "n";refine (lN (n:=n+9) hsd hps hpc hpk hpl fun keep σ3 d sl LD3 hkeep sm3=>?_).ow
 have W3:LD σ3 dk ca d sl (rJ ps) pics 30:=⟨D2.same sm3,keep,LD3,by
  refine yd (D2.dk) ?_;intro m t ep h _
  rw [hkeep _ _ h];simp,by
  refine za (D2.ca) ?_;intro cs h _
  rw [hkeep _ _ h];simp⟩
 have hsd3:=sm3 _ _ (by simp) hsd
 have hpc3:=sm3 _ _ (by simp) hpc
 clear D2 LD3 hkeep sm3 hsd hpc
 fail "g"
 fail "n";with_reducible refine' qp (fv:=[("deck",.ref dk)]) ?ok1 ?hs1 ?_
 case ok1 =>
  refine ⟨rfl,of_decide_eq_true (by kernel_rfl),rfl,?_,?_,?_⟩
  ·decide +kernel
  ·intro e he;rw [List.mem_singleton] at he;subst he;exact ⟨rfl,zx rfl,zx rfl,rfl⟩
  ·intro e he;rw [List.mem_singleton] at he;subst he;rfl
 case hs1=>exact fun _=>rfl
 with_reducible refine' yR ?r1 ?r2 ?r3 ?r4 ?_
 case r1=>kernel_rfl
 case r2=>kernel_rfl
 case r3=>exact rfl
 case r4=>exact rfl
 fail "g"
 fail "n";refine (vR (n:=n+13) W3.deck (by decide) (by decide) (by decide) fun σ4 v D4 br4 h0 hlt=>?_).ow
 have W4:=W3.bar br4 D4
 obtain ⟨k0,rfl⟩:=Int.eq_ofNat_of_zero_le h0
 have hk0:k0<=8:=by exact o625 _ hlt
 have hsdd:sd≠dk:=by
  refine yd (W3.deck.dk) ?_;intro m t ep h _
  rintro rfl;rw [h] at hsd3;cases hsd3
 have hsdc:sd≠ca:=by
  refine za (W3.deck.ca) ?_;intro cs h _
  rintro rfl;rw [h] at hsd3;cases hsd3
 have hpcd:pc≠dk:=by
  refine yd (W3.deck.dk) ?_;intro m t ep h _
  rintro rfl;rw [h] at hpc3;cases hpc3
 have hsd4:=br4 _ _ hsdd hsdc hsd3
 have hpc4:=br4 _ _ hpcd hpcca hpc3
 clear h0 hlt D4 br4 W3 hsd3 hpc3
 fail "g"
 refine ⟨_,rfl,by exact o372 _,by exact o626 _ hk0,fun xs ys σ'=>∃ (m:Nat) (zs:List Int) (T:Nat),xs=rng (m:Nat) 1 (k0-m)/\m<=k0/\ys=zs.map CV.int/\zs.length=m/\(∀ k∈zs,k∈xh)/\LD σ' dk ca d sl (rJ ps) pics T/\T=31+m/\Bar dk ca σ4 σ',
  (tL 0 ([]) (31) rfl (Nat.zero_le _) rfl rfl ((fun k hk=>absurd hk List.not_mem_nil)) W4 rfl Bar.refl),?_⟩
 intro C xs ys σ' z1;refine nG (z1) ?_;try clear z1;intro m zs T q426 hm q427 hz hzS W5 q428 br5;obtain rfl:=q426;obtain rfl:=q427;obtain rfl:=q428
 refine ⟨trivial,?_⟩
 cases hmm:k0-m with
 | succ j =>
  simp only [rng]
  fail "g"
  refine vt ?_
  rw [if_pos rfl]
  refine ⟨by rw [List.length_map];exact o627 _ _ _ hz hm hk0,?_⟩
  fail "g"
  refine ⟨by fail "t",fun a1 na1=>?_⟩
  fail "g"
  refine (rO (768) (777) rfl (by decide) (by decide) (by decide) (by decide) (by decide) (fun a2 na2=>?_))
  have ha12:a1≠a2:=zf (zb _ _ _) na2
  fail "n";refine uQ (zk (zb _ _ _) na2) (zb _ _ _) (by simp [yv]) fun a3 na3=>?_
  have hx:upd (upd (upd σ' a1 (CO.list [CV.int 97,CV.int 65,CV.int 98,CV.int 223,CV.int 83,CV.int 454,CV.int 452])) a2 (CO.list (rng 768 1 (777-768:Int).toNat))) a3 (CO.list ([CV.int 97,CV.int 65,CV.int 98,CV.int 223,CV.int 83,CV.int 454,CV.int 452]++rng 768 1 (777-768:Int).toNat)) a3=some (.list (MENU.map CV.int)):=zb _ _ _
  have sma:Same [] σ' (upd (upd (upd σ' a1 (CO.list [CV.int 97,CV.int 65,CV.int 98,CV.int 223,CV.int 83,CV.int 454,CV.int 452])) a2 (CO.list (rng 768 1 (777-768:Int).toNat))) a3 (CO.list ([CV.int 97,CV.int 65,CV.int 98,CV.int 223,CV.int 83,CV.int 454,CV.int 452]++rng 768 1 (777-768:Int).toNat))):=Same.newU (Same.newU (Same.newU Same.refl na1) na2) na3
  have na3':=yh (Same.newU (Same.newU Same.refl na1) na2) na3
  generalize upd (upd (upd σ' a1 (CO.list [CV.int 97,CV.int 65,CV.int 98,CV.int 223,CV.int 83,CV.int 454,CV.int 452])) a2 (CO.list (rng 768 1 (777-768:Int).toNat))) a3 (CO.list ([CV.int 97,CV.int 65,CV.int 98,CV.int 223,CV.int 83,CV.int 454,CV.int 452]++rng 768 1 (777-768:Int).toNat))=σa at *
  have Wa:=W5.same sma
  have hdk3:a3≠dk:=by
   refine yd (W5.deck.dk) ?_;intro m t ep h _
   exact (zf h na3').symm
  have hca3:a3≠ca:=by
   refine za (W5.deck.ca) ?_;intro cs h _
   exact (zf h na3').symm
  fail "g"
  fail "n";refine (p8 (n:=n+12) Wa.deck (o628 _ _ hm hk0) hx hdk3 hca3 (by decide) (by decide) fun σb v Db brb hv=>?_).ow
  refine za (List.mem_map.mp hv) ?_;intro k hk q429;obtain rfl:=q429
  refine ⟨⟨rfl,trivial⟩,(tL (m+1) (zs++[k]) (31+m+1) (?_) (o396 _ _ _ hmm) (by simp) (by simp [hz]) (fun k' hk'=>?_) (Wa.bar brb Db) (o629 _) (br5.trans ((Bar.same sma).trans brb)))⟩
  ·rw [show k0-(m+1)=j by exact o99 _ _ _ hmm];congr 1
  ·rcases List.mem_append.mp hk' with h | h
   ·exact hzS _ h
   ·rw [List.mem_singleton] at h;subst h;exact rF _ hk
 | zero =>
  simp only [rng]
  refine ⟨by rw [List.length_map];exact o630 _ _ _ hz hm hk0,fun tx ntx=>?_⟩
  have hmk:m=k0:=by exact o375 _ _ hmm hm
  subst hmk
  have htc:tx≠ca:=by
   refine za (W5.deck.ca) ?_;intro cs h _
   exact (zf h ntx).symm
  have W6:=W5.same (Same.newU (co:=CO.list (zs.map CV.int)) Same.refl ntx)
  have htx6:upd σ' tx (CO.list (zs.map CV.int)) tx=some (.list (zs.map CV.int)):=zb _ _ _
  have hsd6:=zk (co:=CO.list (zs.map CV.int)) (br5 _ _ hsdd hsdc hsd4) ntx
  have hpc6:=zk (co:=CO.list (zs.map CV.int)) (br5 _ _ hpcd hpcca hpc4) ntx
  generalize upd σ' tx (CO.list (zs.map CV.int))=σ6 at *
  clear W4 W5 br5 hsd4 hpc4 ntx hm hmm
  rename zs.length=_=>hz
  have hzl:zs.length<=8:=by exact o631 _ _ hz hk0
  have hT:31+m<=39:=by exact o632 _ hk0
  generalize 31+m=T at *
  clear hz hk0
  rename List Int=>text
  fail "g"
  have hsfp:∀ k∈text,(wEs ps).lookup k=some (.str (rJ ps k)):=fun k hk=>nu hps (hzS k hk)
  have hcs:=nr (ps:=ps) hpk
  generalize rJ ps=sf at *
  fail "n";refine (vU (n:=n+11) htx6 hsd6 hsfp hpc6 (o633 _ hzl) fun σ7 du sm7 ndu hdu7=>?_).ow
  have hduc:du≠ca:=by
   refine za (W6.deck.ca) ?_;intro cs h _
   exact (zf h ndu).symm
  have W7:=W6.same sm7
  have htx7:=sm7 _ _ (by simp) htx6
  have WC7:=W7.word htx7 hzS (o634 _ hzl)
  have hbl:=tG (text.map sf) (yK pics text)
  rw [List.length_map] at hbl
  generalize hB:bnd (text.map sf) (yK pics text)=B at hdu7 hbl
  clear sm7 htx6 W6 hsd6 hpc6 hsfp ndu σ6
  fail "g"
  fail "if"
  fail "g"
  fail "n";refine (y8 (n:=n+1) WC7 fun σ8 b8 sm8 nb8 hb8=>?_).ow
  replace hb8:σ8 b8=some (.list (B.map zX)):=by rw [← hB];exact hb8
  fail "g"
  fail "n";refine kK hb8 fun l8 nl8=>?_
  have sm9:=Same.newU (co:=CO.list (B.map zX)) sm8 nl8
  have hl9:upd σ8 l8 (CO.list (B.map zX)) l8=some (.list (B.map zX)):=zb _ _ _
  generalize upd σ8 l8 (CO.list (B.map zX))=σ9 at *
  have hdu9:=sm9 _ _ (by simp) hdu7
  have htx9:=sm9 _ _ (by simp) htx7
  fail "g"
  fail "n";refine wI (zo hl9 (y7 B)) (zo hdu9 (y7 B)) (yj B) ?_
  fail "g"
  have W9:=W7.same sm9
  clear hb8 sm8 nl8 nb8 hl9 WC7 W7 htx7 hdu7 sm9 σ8 σ7 b8 l8
  fail "n";refine wt (fun ρ0 σ'=>ρ0=([("deck",.ref dk),("data",.ref d),("text",.ref tx),("due",.ref du)]:Loc)/\Same [] σ9 σ') ?_ ?_
  ·fail "g"
   refine ⟨by fail "t",fun e1 ne1=>?_⟩
   fail "n";refine oNe (da:=.list (text.map PyData.int)) (db:=.list []) (zo (zk htx9 ne1) (zG _)) (zo (zb _ _ _) rfl) (zU _) rfl ?_
   fail "g"
   have hv:(PyData.list (text.map PyData.int)).eqv (.list [])=text.isEmpty:=by cases text <;> simp [PyData.eqv,PyData.eqvAll]
   rw [hv]
   have sm10:=Same.newU (co:=CO.list []) (Same.refl (S:=[]) (σ:=σ9)) ne1
   generalize upd σ9 e1 (CO.list [])=σ10 at *
   cases hte:text.isEmpty with
   | true =>
    fail "g"
    exact (zt ([("deck",.ref dk),("data",.ref d),("text",.ref tx),("due",.ref du)]) (⟨rfl,rfl,rfl,rfl,trivial⟩) rfl sm10)
   | false =>
    have htx10:=sm10 _ _ (by simp) htx9
    have hdu10:=sm10 _ _ (by simp) hdu9
    have WC10:=(W9.same sm10).word htx10 hzS (o634 _ hzl)
    fail "g"
    fail "n";with_reducible refine' qp (fv:=[("text",.ref tx),("data",.ref d)]) ?ok2 ?hs2 ?_
    case ok2 =>
     refine ⟨rfl,of_decide_eq_true (by kernel_rfl),rfl,?_,?_,?_⟩
     ·decide +kernel
     ·intro e he
      simp only [List.mem_cons,List.not_mem_nil,or_false] at he
      rcases he with rfl | rfl
      ·exact ⟨rfl,zx rfl,zx rfl,rfl⟩
      ·exact ⟨rfl,zx rfl,zx rfl,rfl⟩
     ·intro e he
      simp only [List.mem_cons,List.not_mem_nil,or_false] at he
      rcases he with rfl | rfl <;> rfl
    case hs2=>exact fun _=>rfl
    with_reducible refine' yR ?r1 ?r2 ?r3 ?r4 ?_
    case r1=>kernel_rfl
    case r2=>kernel_rfl
    case r3=>exact rfl
    case r4=>exact rfl
    fail "g"
    fail "n";refine xR htx10 ?_
    fail "g"
    refine ⟨((text.length+1:Nat):Int),by rw [List.length_map];rfl,by exact o400 _,by exact o635 _ hzl,fun xs ys σ'=>∃ m:Nat,m<=text.length+1/\xs=rng (m:Nat) 1 (text.length+1-m)/\ys=((List.range m).filter fun i=>rule (text.map sf) (yK pics text) (i:Nat)).map zX/\Same [] σ10 σ',
     (zN 0 (Nat.zero_le _) rfl rfl Same.refl),?_⟩
    intro C xs ys σ' z2;refine wc (z2) ?_;try clear z2;intro m hm q430 q431 smx;obtain rfl:=q430;obtain rfl:=q431
    refine ⟨trivial,?_⟩
    have hfl:(((List.range m).filter fun i=>rule (text.map sf) (yK pics text) (i:Nat)).map zX).length<=m:=by
     rw [List.length_map];exact Nat.le_trans (List.length_filter_le _ _) (by simp)
    cases hmm:text.length+1-m with
    | zero =>
     simp only [rng]
     refine ⟨by exact o636 _ _ _ hfl hm hzl,fun l nl=>?_⟩
     have hme:m=(text.map sf).length+1:=by rw [List.length_map];exact o637 _ _ hmm hm
     subst hme
     have hbb:((List.range ((text.map sf).length+1)).filter fun i=>rule (text.map sf) (yK pics text) (i:Nat))=B:=hB
     rw [hbb]
     fail "g"
     fail "n";refine wI (zo (zb _ _ _) (y7 B)) (zo (zk (smx _ _ (by simp) hdu10) nl) (y7 B)) (yj B) ?_
     fail "g"
     exact (zt ([("deck",.ref dk),("data",.ref d),("text",.ref tx),("due",.ref du)]) (⟨rfl,rfl,rfl,rfl,trivial⟩) rfl (Same.newU (sm10.trans smx) nl))
    | succ j =>
     simp only [rng]
     fail "g"
     refine sV ?_
     fail "g"
     fail "n";refine (wy (n:=n+5) (i:=(m:Nat)) (WC10.same smx) fun σ11 sm11=>?_).ow
     fail "g"
     have hj:((m:Nat):Int)+1=((m+1:Nat):Int):=by exact o394 _
     cases hr:rule (text.map sf) (yK pics text) (m:Nat) with
     | true =>
      simp only [lV,if_true]
      refine ⟨by exact o638 _ _ _ hfl hm hzl,?_⟩
      fail "g"
      refine ⟨⟨rfl,rfl,trivial⟩,(zN (m+1) (o639 _ _ _ hmm) (by rw [hj,show text.length+1-(m+1)=j by exact o640 _ _ _ hmm]) (?_) (smx.trans sm11))⟩
      rw [List.range_succ,List.filter_append,List.filter_cons_of_pos (by exact hr),List.map_append];rfl
     | false =>
      simp only [lV,Bool.false_eq_true,if_false]
      refine ⟨⟨rfl,rfl,trivial⟩,(zN (m+1) (o639 _ _ _ hmm) (by rw [hj,show text.length+1-(m+1)=j by exact o640 _ _ _ hmm]) (?_) (smx.trans sm11))⟩
      rw [List.range_succ,List.filter_append,List.filter_cons_of_neg (by rw [hr];decide),List.map_append];simp
  intro ρ0 σ10 z3;obtain ⟨rfl,sm10⟩:=z3
  have hdu10:=sm10 _ _ (by simp) hdu9
  have htx10:=sm10 _ _ (by simp) htx9
  have W10:=W9.same sm10
  clear W9 hdu9 htx9 sm10 σ9
  have WC10:=W10.word htx10 hzS (o634 _ hzl)
  have hBm:∀ e∈B.zip B.tail,e.1<=text.length/\e.2<=text.length:=fun e he=>by
   have hB':∀ w∈B,w<=text.length:=fun w hw=>by
    rw [← hB] at hw
    have:=List.mem_range.mp (List.mem_filter.mp hw).1
    rw [List.length_map] at this;exact o263 _ _ this
   have h1:=List.of_mem_zip (a:=e.1) (b:=e.2) he
   exact ⟨hB' _ h1.1,hB' _ (List.mem_of_mem_tail h1.2)⟩
  have hBz:(B.zip B.tail).length<=9:=by rw [List.length_zip];exact o641 _ _ _ hbl hzl
  have hprl:(prs B).length<=9:=by unfold prs;rw [List.length_map];exact hBz
  fail "g"
  fail "n";(with_reducible refine xr ?_);with_reducible refine' y9 (fv:=[]) (cl:=[]) ?sw3 ?ok3 ?hs3 ?_
  case sw3=>exact rfl
  case ok3=>exact ⟨rfl,of_decide_eq_true (by kernel_rfl),rfl,by decide +kernel,fun e he=>absurd he List.not_mem_nil,fun e he=>absurd he List.not_mem_nil⟩
  case hs3=>exact fun _=>rfl
  refine wm ?_
  fail "g"
  fail "n";refine (ux (n:=n) WC10 fun σ11 sg sm11 nsg hsg=>?_).ow
  rw [hB] at hsg
  have hca11:∃ cs:List Int,σ11 ca=some (.list (cs.map .int)):=by
   refine za (W10.deck.ca) ?_;intro cs h _
   exact ⟨cs,sm11 _ _ (by simp) h⟩
  refine (zj _ _ (zK hsg) (o642 _ hprl) (zV (fun _=>true) (fun v=>v) (?_) (fun pa npa=>?_)))
  ·intro v hv C
   refine za (List.mem_map.mp hv) ?_;intro p hp q433;obtain rfl:=q433
   fail "g"
   refine ⟨rfl,trivial,vt ⟨rfl,rfl,fun _=>?_⟩⟩
   fail "g"
   fail "n";refine qi ?_
   exact ⟨rfl,rfl⟩
  rw [List.map_id',List.filter_eq_self.mpr (by simp)]
  have hpac:pa≠ca:=by
   obtain ⟨cs,h⟩:=hca11
   exact (zf h npa).symm
  have sm12:=Same.newU (co:=CO.list (prs B)) sm11 npa
  have hpa12:upd σ11 pa (CO.list (prs B)) pa=some (.list (prs B)):=zb _ _ _
  generalize upd σ11 pa (CO.list (prs B))=σ12 at *
  have W12:=W10.same sm12
  have htx12:=sm12 _ _ (by simp) htx10
  have hdu12:=sm12 _ _ (by simp) hdu10
  clear hca11 hsg nsg npa sm11 sm12 W10 htx10 hdu10 WC10 σ10 σ11
  fail "g"
  have htd:tx≠dk:=by
   refine yd (W12.deck.dk) ?_;intro m t ep h _
   rintro rfl;rw [h] at htx12;cases htx12
  have hdd:du≠dk:=by
   refine yd (W12.deck.dk) ?_;intro m t ep h _
   rintro rfl;rw [h] at hdu12;cases hdu12
  have hpd:pa≠dk:=by
   refine yd (W12.deck.dk) ?_;intro m t ep h _
   rintro rfl;rw [h] at hpa12;cases hpa12
  show WSS _ _ _ _ _ _ _ _
  fail "n";refine wt (fun ρ0 σ'=>ρ0=([("data",.ref d),("text",.ref tx),("due",.ref du),("parts",.ref pa)]:Loc)/\Bar dk ca σ12 σ'/\∃ T,LD σ' dk ca d sl sf pics T) ?_ ?_
  ·fail "g"
   refine (z0 1 rfl (?_))
   fail "g"
   refine (zj du _ rfl hdu12 (fun t1 nt1=>?_))
   rw [lR,← List.map_tail]
   fail "g"
   refine (nI du t1 (B.map fun (w:Nat)=>(w:Int)) (B.tail.map fun (w:Nat)=>(w:Int)) rfl (by rw [← yZ];exact zk hdu12 nt1) (by rw [← yZ];exact zb _ _ _) (by rw [List.length_map];exact o643 _ _ hbl hzl) (fun z1 nz1=>?_))
   rw [lQ]
   have sm13:=Same.newU (co:=CO.list (prs B)) (Same.newU (co:=CO.list (B.tail.map zX)) (Same.refl (S:=[]) (σ:=σ12)) nt1) nz1
   have hz13:upd (upd σ12 t1 (CO.list (B.tail.map zX))) z1 (CO.list (prs B)) z1=some (.list (prs B)):=zb _ _ _
   generalize upd (upd σ12 t1 (CO.list (B.tail.map zX))) z1 (CO.list (prs B))=σ13 at *
   fail "n";refine wI (zo (sm13 _ _ (by simp) hpa12) (by rw [sR];exact yw _)) (zo hz13 (by rw [sR];exact yw _)) (wK _) ?_
   fail "g"
   refine ⟨by fail "t",fun e1 ne1=>?_⟩
   fail "n";refine oNe (da:=.list (text.map PyData.int)) (db:=.list []) (zo (zk (sm13 _ _ (by simp) htx12) ne1) (zG _)) (zo (zb _ _ _) rfl) (zU _) rfl ?_
   fail "g"
   have hv:(PyData.list (text.map PyData.int)).eqv (.list [])=text.isEmpty:=by cases text <;> simp [PyData.eqv,PyData.eqvAll]
   rw [hv]
   have sm14:=Same.newU (co:=CO.list []) sm13 ne1
   generalize upd σ13 e1 (CO.list [])=σ14 at *
   cases hte:text.isEmpty with
   | true =>
    fail "g"
    exact (zN ([("data",.ref d),("text",.ref tx),("due",.ref du),("parts",.ref pa)]) (⟨rfl,rfl,rfl,rfl,trivial⟩) rfl (Bar.same sm14) ⟨_,W12.same sm14⟩)
   | false =>
    have hpos:0<text.length:=by cases text with | nil=>cases hte | cons a r=>simp
    fail "g"
    fail "n";refine (nj (n:=n+1) (W12.same sm14) (o644 _ hT) (sm14 _ _ (by simp) htx12) htc hzS (o633 _ hzl) hpos (by rw [hB];exact sm14 _ _ (by simp) hdu12) hduc fun σ15 W15 br15=>?_).ow
    fail "g"
    exact (zN ([("data",.ref d),("text",.ref tx),("due",.ref du),("parts",.ref pa)]) (⟨rfl,rfl,rfl,rfl,trivial⟩) rfl ((Bar.same sm14).trans br15) ⟨_,W15⟩)
  intro ρ0 σ13 z4;refine zh (z4) ?_;try clear z4;intro q434 br13 q435;obtain rfl:=q434;obtain ⟨T2,W13⟩:=q435
  have htx13:=br13 _ _ htd htc htx12
  have hdu13:=br13 _ _ hdd hduc hdu12
  have hpa13:=br13 _ _ hpd hpac hpa12
  clear W12 htx12 hdu12 hpa12 br13 hpd hpac hdd htd σ12
  fail "g"
  fail "n";(with_reducible refine xr ?_);with_reducible refine' vB (fv:=[("text",.ref tx)]) ?sw4 ?ok4 ?hs4 ?hs5 ?_
  case sw4=>exact rfl
  case ok4 =>
   refine ⟨rfl,of_decide_eq_true (by kernel_rfl),rfl,?_,?_,?_⟩
   ·decide +kernel
   ·intro e he;rw [List.mem_singleton] at he;subst he;exact ⟨rfl,zx rfl,zx rfl,rfl⟩
   ·intro e he;rw [List.mem_singleton] at he;subst he;rfl
  case hs4=>exact fun _=>rfl
  case hs5=>exact fun _ _=>rfl
  refine wm ?_
  fail "g"
  refine ⟨_,_,zK hpa13,fun xs ys σ'=>∃ D R:List (Nat × Nat),B.zip B.tail=D++R/\xs=R.map rx/\ys=(D.flatMap fun e=>yk false (cut text e)).map yJ/\Same [] σ13 σ',(zH ([]) (B.zip B.tail) rfl rfl rfl Same.refl),?_⟩
  intro C xs ys σ' z5;refine zM (z5) ?_;try clear z5;intro D R hDR q436 q437 smx;obtain rfl:=q436;obtain rfl:=q437
  refine ⟨smx _ _ (by simp) hpa13,?_⟩
  have hcl:∀ e,(cut text e).length<=8:=fun e=>by
   unfold cut
   have h1:=List.length_take_le' (e.2-e.1) (text.drop e.1)
   have h2:(text.drop e.1).length<=text.length:=by rw [List.length_drop];exact o15 _ _
   exact o645 _ _ _ h1 h2 hzl
  have hfm:∀ D:List (Nat × Nat),(D.flatMap fun e=>yk false (cut text e)).length<=8*D.length:=fun D=>by
   induction D with
   | nil=>simp
   | cons e D ih =>
    rw [List.flatMap_cons,List.length_append,yi,List.length_cons]
    have:=hcl e
    exact o646 _ _ _ this ih
  have hDl:D.length<=9:=by have:=congrArg List.length hDR;rw [List.length_append] at this;exact o647 _ _ _ this hBz
  have hyl:((D.flatMap fun e=>yk false (cut text e)).map yJ).length<=72:=by rw [List.length_map];have:=hfm D;exact o648 _ _ this hDl
  cases R with
  | cons e R =>
   obtain ⟨a,b⟩:=e
   obtain ⟨hab1,hab2⟩:=hBm (a,b) (by rw [hDR];exact List.mem_append_right _ List.mem_cons_self)
   have htx':=smx _ _ (by simp) htx13
   simp only [List.map_cons,rx]
   unfold sZ
   fail "g"
   refine ⟨⟨rfl,trivial⟩,wm ?_⟩
   fail "g"
   refine (z0 _ rfl (?_))
   fail "g"
   refine (z0 _ rfl (zj tx _ rfl htx' (fun cu ncu=>?_)))
   rw [p9,mV (o162 _) (by simpa using hab1) (o162 _) (by simpa using hab2),Int.toNat_natCast,Int.toNat_natCast]
   show hY _ _ _ _ _ (upd σ' cu (CO.list ((cut text (a,b)).map CV.int)))
   have smy:=Same.newU (co:=CO.list ((cut text (a,b)).map CV.int)) smx ncu
   have hcu:upd σ' cu (CO.list ((cut text (a,b)).map CV.int)) cu=some (.list ((cut text (a,b)).map CV.int)):=zb _ _ _
   generalize upd σ' cu (CO.list ((cut text (a,b)).map CV.int))=σ14 at *
   fail "g"
   fail "n";refine (nc (n:=n+11) hcu (by have:=hcl (a,b);exact o649 _ this) fun σ15 lb smz nlb hlb=>?_).ow
   refine ⟨_,_,zK hlb,fun xs2 ys2 σ''=>∃ D2 R2:List (List Int),yk false (cut text (a,b))=D2++R2/\xs2=R2.map yJ/\ys2=(D.flatMap fun e=>yk false (cut text e)).map yJ++D2.map yJ/\σ''=σ15,(zH ([]) _ rfl rfl (by simp) rfl),?_⟩
   intro xs2 ys2 σ'' z6;refine zM (z6) ?_;try clear z6;intro D2 R2 hD2 q438 q439 q440;obtain rfl:=q438;obtain rfl:=q439;obtain rfl:=q440
   refine ⟨hlb,?_⟩
   cases R2 with
   | nil =>
    rw [List.append_nil] at hD2
    refine (zH (D++[(a,b)]) R (by rw [hDR];simp) rfl (?_) (smy.trans smz))
    rw [List.flatMap_append,List.map_append,← hD2];simp
   | cons z R2 =>
    have hzl:D2.length<=8:=by
     have h1:=congrArg List.length hD2
     rw [yi,List.length_append] at h1
     have:=hcl (a,b)
     exact o650 _ _ _ h1 this
    simp only [List.map_cons]
    fail "g"
    refine ⟨⟨rfl,trivial⟩,by rw [List.length_append];have:=List.length_map (as:=D2) yJ;exact o651 _ _ _ hyl this hzl,?_⟩
    fail "g"
    exact (zH (D2++[z]) R2 (by rw [hD2];simp) rfl (by simp) rfl)
  | nil =>
   refine ⟨by exact o652 _ hyl,fun pp npp=>?_⟩
   rw [List.append_nil] at hDR
   have hPP:(D.flatMap fun e=>yk false (cut text e))=vX sf pics text:=by
    unfold vX;rw [hB];unfold pcs;rw [hDR]
   rw [hPP]
   have sm14:=Same.newU (co:=CO.list ((vX sf pics text).map yJ)) smx npp
   have hpp14:upd σ' pp (CO.list ((vX sf pics text).map yJ)) pp=some (.list ((vX sf pics text).map yJ)):=zb _ _ _
   generalize upd σ' pp (CO.list ((vX sf pics text).map yJ))=σ14 at *
   have W14:=W13.same sm14
   have htx14:=sm14 _ _ (by simp) htx13
   have hdu14:=sm14 _ _ (by simp) hdu13
   have WC14:=W14.word htx14 hzS (o634 _ hzl)
   clear smx npp sm14 W13 htx13 hdu13 hpa13 hyl hDl hfm hcl hPP
   obtain ⟨hm1,hm2⟩:=nq (sf:=sf) (pics:=pics) (text:=text) hzS
   have htw:=rE hcs text
   have hpt:=uM (sf:=sf) (pics:=pics) (text:=text)
   have hpt2:=uM (sf:=sf) (pics:=pics) (text:=(vX sf pics text).flatten)
   fail "g"
   fail "n";refine (y8 (n:=n+1) WC14 fun σ15 b15 sm15 nb15 hb15=>?_).ow
   fail "g"
   fail "n";refine (qS (n:=n+5) (ws:=bnd (text.map sf) (yK pics text)) (W14.same sm15).case (sm15 _ _ (by simp) htx14) hb15 hzS (o649 _ hzl) (by rw [hB];exact o653 _ _ hbl hzl) (by rw [hpt];exact o654 _ _ hm2 hzl) fun σ16 to sm16 nto hto=>?_).ow
   rw [hpt] at hto
   have smA:=sm15.trans sm16
   have W16:=W14.same smA
   have htx16:=smA _ _ (by simp) htx14
   have hdu16:=smA _ _ (by simp) hdu14
   have hpp16:=smA _ _ (by simp) hpp14
   clear sm15 nb15 hb15 sm16 nto smA W14 WC14 htx14 hdu14 hpp14 σ15 b15
   fail "g"
   have hPl:(vX sf pics text).length<=100:=by
    unfold vX
    rw [hB];unfold pcs
    refine Nat.le_trans ?_ (show 8*9<=100 by decide)
    have hcl:∀ e,(cut text e).length<=8:=fun e=>by
     unfold cut
     have h1:=List.length_take_le' (e.2-e.1) (text.drop e.1)
     have h2:(text.drop e.1).length<=text.length:=by rw [List.length_drop];exact o15 _ _
     exact o645 _ _ _ h1 h2 hzl
    have hfm:∀ D:List (Nat × Nat),(D.flatMap fun e=>yk false (cut text e)).length<=8*D.length:=fun D=>by
     induction D with
     | nil=>simp
     | cons e D ih =>
      rw [List.flatMap_cons,List.length_append,yi,List.length_cons]
      have:=hcl e
      exact o646 _ _ _ this ih
    have:=hfm (B.zip B.tail)
    exact o655 _ _ this hBz
   rw [← hB] at hdu16
   generalize hP:vX sf pics text=P at *
   fail "if"
   fail "g"
   fail "n";refine (wC (n:=n+6) (ws:=bnd (text.map sf) (yK pics text)) (.inr rfl) W16.case htx16 hdu16 hzS (o649 _ hzl) (by rw [hB];exact o653 _ _ hbl hzl) fun σ17 b17 sm17 nb17 hb17=>?_).ow
   rw [hpt] at hb17
   fail "g"
   fail "n";refine kK hb17 fun l17 nl17=>?_
   have sm18:=Same.newU (co:=CO.list (P.map yJ)) sm17 nl17
   have hl18:upd σ17 l17 (CO.list (P.map yJ)) l17=some (.list (P.map yJ)):=zb _ _ _
   generalize upd σ17 l17 (CO.list (P.map yJ))=σ18 at *
   fail "g"
   fail "n";refine wI (zo hl18 (yw P)) (zo (sm18 _ _ (by simp) hpp16) (yw P)) (wK P) ?_
   fail "g"
   have hpp18:=sm18 _ _ (by simp) hpp16
   have hto18:=sm18 _ _ (by simp) hto
   have W18:=W16.same sm18
   clear hl18 nl17 hb17 nb17 sm17 sm18 hpp16 hto hdu16 htx16 W16
   fail "n";with_reducible refine' kP (fv:=[]) (cl:=[]) ?ok6 ?hs6 ?hs7 ?_
   case ok6=>exact ⟨rfl,of_decide_eq_true (by kernel_rfl),rfl,by decide +kernel,fun e he=>absurd he List.not_mem_nil,fun e he=>absurd he List.not_mem_nil⟩
   case hs6=>exact fun _=>rfl
   case hs7=>exact fun _ _=>rfl
   refine wm ?_
   fail "g"
   refine ⟨_,_,zK hpp18,fun xs ys σ'=>∃ D R:List (List Int),P=D++R/\xs=R.map yJ/\ys=D.flatten.map CV.int/\σ'=σ18,(zH ([]) P rfl rfl rfl rfl),?_⟩
   intro C xs ys σ' z7;refine zM (z7) ?_;try clear z7;intro D R hDR q441 q442 q443;obtain rfl:=q441;obtain rfl:=q442;obtain rfl:=q443
   refine ⟨hpp18,?_⟩
   have hDl:D.flatten.length<=16:=by
    rw [hDR,List.flatten_append,List.length_append] at hm2;exact o656 _ _ _ hm2 hzl
   cases R with
   | cons z R =>
    have hzl:z.length<=16:=by
     rw [hDR,List.flatten_append,List.length_append,List.flatten_cons,List.length_append] at hm2;exact o657 _ _ _ _ hm2 hzl
    simp only [List.map_cons]
    unfold sZ
    fail "g"
    refine ⟨trivial,wm ?_⟩
    fail "g"
    refine ⟨_,_,tT,fun xs2 ys2 σ''=>∃ D2 R2:List Int,z=D2++R2/\xs2=R2.map CV.int/\ys2=D.flatten.map CV.int++D2.map CV.int/\σ''=σ',(zH ([]) z rfl rfl (by simp) rfl),?_⟩
    intro xs2 ys2 σ'' z8;refine zM (z8) ?_;try clear z8;intro D2 R2 hD2 q444 q445 q446;obtain rfl:=q444;obtain rfl:=q445;obtain rfl:=q446
    refine ⟨trivial,?_⟩
    cases R2 with
    | nil =>
     rw [List.append_nil] at hD2
     refine (zH (D++[z]) R (by rw [hDR];simp) rfl (?_) rfl)
     rw [List.flatten_append,List.map_append,hD2];simp
    | cons k R2 =>
     have hD2l:D2.length<=16:=by rw [hD2,List.length_append] at hzl;exact o658 _ _ hzl
     simp only [List.map_cons]
     fail "g"
     refine ⟨trivial,by rw [List.length_append];simp only [List.length_map];exact o659 _ _ hDl hD2l,?_⟩
     fail "g"
     exact (zH (D2++[k]) R2 (by rw [hD2];simp) rfl (by simp) rfl)
   | nil =>
    rw [List.append_nil] at hDR
    subst hDR
    refine ⟨by rw [List.length_map];exact o660 _ hDl,fun fl nfl=>?_⟩
    fail "n";refine wI (zo (zk hto18 nfl) (zG _)) (zo (zb _ _ _) (zG _)) (zU _) ?_
    have smf:=Same.newU (co:=CO.list (P.flatten.map CV.int)) (Same.refl (S:=[]) (σ:=σ')) nfl
    generalize upd σ' fl (CO.list (P.flatten.map CV.int))=σ19 at *
    have W19:=W18.same smf
    have hto19:=smf _ _ (by simp) hto18
    clear W18 hto18 hpp18 smf nfl
    have WC19:=W19.word hto19 hm1 (o661 _ hDl)
    have hbl2:=tG (P.flatten.map sf) (yK pics P.flatten)
    rw [List.length_map] at hbl2
    fail "g"
    fail "n";refine (y8 (n:=n+1) WC19 fun σ20 b20 sm20 nb20 hb20=>?_).ow
    fail "g"
    fail "n";refine (qS (n:=n+5) (ws:=bnd (P.flatten.map sf) (yK pics P.flatten)) (W19.same sm20).case (sm20 _ _ (by simp) hto19) hb20 hm1 (o662 _ hDl) (o663 _ _ hbl2 hDl) (by rw [hpt2,htw];exact o661 _ hDl) fun σ21 t21 sm21 nt21 ht21=>?_).ow
    rw [hpt2,htw] at ht21
    fail "g"
    fail "n";refine lP (zo ht21 (zG _)) (zo (sm21 _ _ (by simp) (sm20 _ _ (by simp) hto19)) (zG _)) (zU _) ?_
    exact h _
end

theorem sS {h:Heap}:∀ {vs:List Value} {xs:List Int},IntsAre vs xs->VRs h (xs.map CV.int) vs
 | _,_,.nil=>.nil
 | _,_,.cons n t r=>.cons isInt (sS r)
theorem tt (H:∀ (y:CW) (Q:CV->Sto->Prop) (sc:Addr) (script:List Int),sY y.c sc (script.map .int)->script.length<=63->(∀ σ',Q (.bool true) σ')->OCd y.c 40 [.ref sc] (.ref 546) Q emp):PySem.Challenge.rw_nt0056_01.Holds:=hdK fun d kwd hdef=>by
 intro w s₀ s₁ mg mb G Y fa o pm cd doc dV kV ho hd hcd hD hmg hg args vals as hpre hlay hrd hwl hlo
 have KX:=kIn_of Y
 rw [defOf_name hdef] at hmg
 refine Ground.open G ?_
 intro T B D TE TW
 wrow_args hpre hlay hrd hwl hlo
 rename Well _ _ _ _=>w1
 rename IntsAre _ _=>hI
 rename ¬ _<_=>hlen
 rename Heap.IsList _ _ _=>hL
 rename_i xs _ _ _ _ _ _ _ sc vs _ _ _ _ _
 let y:CW:=⟨PySem.Challenge.rw_nt0056_01.row.prog,w,s₁.heap,_,_,mg,mb,s₁.os,KX,topRead_of T⟩
 have hfa:fa=546:=by
  have h1:=mg_of KX T.g (n:="law") (v:=.ref 546) (by kernel_rfl)
  have h2:some (Value.ref fa)=some (Value.ref 546):=hmg.symm.trans h1
  cases h2;rfl
 subst hfa
 have hl:xs.length<=63:=by omega
 have hB:sY y.c sc (xs.map .int):=by
  have e:ofPy (PyData.list (List.map PyData.int xs))=.list (ofPys (List.map PyData.int xs)):=by unfold ofPy;rfl
  rw [e] at w1
  cases w1 with
  | list h1 h2 =>
   rename List Value=>vs'
   obtain ⟨o',h3,_,n',h4⟩:=hL
   rw [h1] at h3
   cases h3
   have h5:vs'.toArray=vs.toArray:=by cases h4;rfl
   exact ⟨vs.toArray,⟨0,by rw [← h5];exact h1⟩,sS hI,by rw [List.length_map];omega⟩
 have hSG:SG y.c emp s₁:=⟨fun _ _ e=>e,fun _ _ e=>(nomatch e),fun _ _ e=>(nomatch e),fun _ _ e=>(nomatch e),hg,rfl⟩
 refine wpAny_mono ((H y (fun v _=>v=.bool true) sc xs hB hl fun _=>rfl).ow.go callerA s₁ _ ⟨rfl,by decide,by decide⟩ hSG (VRs.cons wk VRs.nil)) ?_ ?_
 ·rintro v s' ⟨g,σ',r,G',K,rfl⟩
  obtain rfl:=yO r
  refine GoodW.toG ⟨.inl ⟨.bool true,.bool true,[],rfl,?_,?_,?_,?_⟩,fun b o e=>(K b o e rfl (by simp)).1,G'.os,G'.gens⟩
  ·exact fun cls=>rfl
  ·exact .bool _
  ·refine postW_of (X:=true) ?_ ?_ rfl
   ·show WShape.has _ _ WShape.bool=true
    first | rfl | (simp [WShape.has];done)
   ·show WTm.value _ (.eq .res (.lit (.bool true))) _=_
    first | rfl | (simp [WTm.value,PySem.W.same];done)
  ·exact fun _=>⟨.nil,fun a ha=>absurd ha List.not_mem_nil⟩
 ·exact fun _ _ z=>z.elim
end Mine
theorem PySem.Challenge.cw_nt0056_01_holds : PySem.Challenge.rw_nt0056_01.Holds :=
 Mine.tt fun y Q sc script hb hl h=>Mine.theLaw (n:=25) hb hl h
