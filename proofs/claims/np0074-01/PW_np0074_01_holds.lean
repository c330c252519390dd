import PyProof.Rows.All
import Wide.All
import OpenK.AllK
import Wide.FinOn
import PySem.Challenge.RW_np0074_01
open PySem PySem.W PyProof.Rows PySem.Calls PySem.Spec PyProof.V
set_option Elab.async false
set_option maxRecDepth 100000
set_option maxHeartbeats 8000000
namespace Mine
noncomputable def nthS : List Stmt → Nat → Stmt
  | [], _ => .Pass default
  | s :: _, 0 => s
  | _ :: r, k + 1 => nthS r k
noncomputable def stA (i : Nat) : Stmt := nthS PySem.Challenge.pw_np0074_01.main.body i
noncomputable def stB (i j : Nat) : Stmt := match stA i with
  | .ClassDef _ _ _ b _ _ _ _ _ _ _ => nthS b j
  | s => s
noncomputable abbrev kn (x : String) : Str := Str.ofString x
noncomputable abbrev ks (x : String) (t : Tok) : Value := .str (Str.ofString x) t
noncomputable abbrev ke (P : Params) (x : String) (t : Tok) (v : Value) : DictEntry := ⟨PyData.keyHash P (Str.ofString x), .str (Str.ofString x) t, v⟩
noncomputable def fo (st : Stmt) (qual pm : String) (pt : Tok) (dV code : Value) : Obj := match st with
  | .FunctionDef name params body _ _ _ scope _ _ _ => ⟨.type "function", none, .func { name := name, qualname := Str.ofString qual, params := params, body := .stmts body, scope := scope, globals := 3, closure := [], defaults := dV, kwdefaults := .none, doc := .none, pyModule := ks pm pt, code := code }, #[]⟩
  | _ => default
noncomputable def fg (st : Stmt) (qual : String) : Obj := match st with
  | .FunctionDef name params body _ _ _ scope _ _ _ => ⟨.none, none, .func { name := name, qualname := Str.ofString qual, params := params, body := .stmts body, scope := scope, globals := 0, closure := [], defaults := .none, kwdefaults := .none }, #[]⟩
  | _ => default
noncomputable def topT (P : Params) : BT :=
  (.node (boot_o_0 P) (.node (boot_o_1 P) (.node (⟨(.type "dict"), none, .dict (List.toArray [ke P "__name__" 165 (ks "law_np0074_01" 917), ke P "__doc__" 166 .none, ke P "__package__" 167 .none, ke P "__loader__" 168 (.builtin "__main__.__loader__#opaque"), ke P "__spec__" 169 .none, ke P "__annotations__" 170 (.ref 6), ke P "__builtins__" 171 (.ref 4), ke P "__file__" 173 (ks "/claim/cut.py" 172), ke P "__cached__" 174 .none, ke P "_wall" 193 (.ref 21), ke P "LispSignal" 226 (.ref 38), ke P "Opaque" 270 (.ref 72), ke P "Marker" 323 (.ref 114), ke P "Markers" 419 (.ref 182), ke P "set_marker" 430 (.ref 193), ke P "OWN_NUMBER" 434 (.int (0) 433), ke P "MarkRing" 465 (.ref 210), ke P "set_mark" 473 (.ref 221), ke P "has_mark" 480 (.ref 228), ke P "mark_place" 487 (.ref 235), ke P "ring_marker" 497 (.ref 242), ke P "push_mark" 507 (.ref 249), ke P "pop_mark" 517 (.ref 256), ke P "pop_to_mark" 525 (.ref 263), ke P "GapText" 645 (.ref 350), ke P "Buffer" 784 (.ref 456), ke P "need_writable" 793 (.ref 465), ke P "reached" 804 (.ref 472), ke P "tell_ahead" 814 (.ref 479), ke P "tell_behind" 825 (.ref 486), ke P "text_out" 835 (.ref 493), ke P "text_in" 844 (.ref 500), ke P "hung_out" 853 (.ref 507), ke P "hung_in" 863 (.ref 514), ke P "put_in" 874 (.ref 521), ke P "insert_at" 884 (.ref 529), ke P "delete" 896 (.ref 536), ke P "narrow" 909 (.ref 543), ke P "widen" 916 (.ref 550), ke P "_law_draw" 928 (.ref 557), ke P "_law_pick" 936 (.ref 564), ke P "_law_deck" 942 (.ref 569), ke P "_law_told" 950 (.ref 576), ke P "_law_clipped" 958 (.ref 583), ke P "_law_moved" 968 (.ref 590), ke P "_law_popped" 978 (.ref 597), ke P "_law_pushed" 989 (.ref 604), ke P "_law_is_right" 995 (.ref 609), ke P "law" 1001 (.ref 614)]) 49, List.toArray []⟩) (.node (boot_o_7 P) (.node (⟨(.type "tuple"), none, .seq (List.toArray []) 0, List.toArray []⟩) (.node (⟨(.type "tuple"), none, .seq (List.toArray [(ks "self" 211), (ks "symbol" 212), (ks "data" 213)]) 0, List.toArray []⟩) (.node (⟨(.type "tuple"), none, .seq (List.toArray []) 0, List.toArray []⟩) (.node (⟨(.type "tuple"), none, .seq (List.toArray []) 0, List.toArray []⟩) (.node (⟨(.type "code"), none, .fields (List.toArray [(ks "pop_mark" 508), (ks "pop_mark" 509), (ks "/claim/cut.py" 510), (.int (116) 0), (.int (2) 0), (.int (0) 0), (.int (0) 0), (.int (3) 0), (.ref 250), (.bool true), (.int (181) 0), (.ref 251), .none, (.ref 252), (.ref 253), (.ref 254), (.int (515) 0), (.int (116) 0), (ks "/claim/cut.py" 516)]), List.toArray []⟩) (.node (⟨(.type "tuple"), none, .seq (List.toArray []) 0, List.toArray []⟩) .nil .nil) .nil) (.node (fo (stB 23 2) "Buffer.kind" "emacs.buffer" 646 .none (.ref 382)) .nil .nil)) (.node (fg (stA 9) "set_marker") (.node (fo (stB 21 6) "GapText.insert" "emacs.gap" 526 .none (.ref 318)) (.node (⟨(.type "code"), none, .fields (List.toArray [(ks "_law_told" 943), (ks "_law_told" 944), (ks "/claim/cut.py" 945), (.int (342) 0), (.int (1) 0), (.int (0) 0), (.int (0) 0), (.int (3) 0), (.ref 570), (.bool true), (.int (181) 0), (.ref 571), .none, (.ref 572), (.ref 573), (.ref 574), (.int (948) 0), (.int (342) 0), (ks "/claim/cut.py" 949)]), List.toArray []⟩) .nil .nil) .nil) (.node (⟨(.type "tuple"), none, .seq (List.toArray []) 0, List.toArray []⟩) .nil .nil))) (.node (fg (stB 6 1) "Marker.shown") (.node (⟨(.type "tuple"), none, .seq (List.toArray []) 0, List.toArray []⟩) (.node (⟨(.type "tuple"), none, .seq (List.toArray [(ks "self" 559), (ks "at" 560)]) 0, List.toArray []⟩) (.node (fo (stA 37) "narrow" "emacs.narrowing" 897 .none (.ref 542)) .nil .nil) .nil) (.node (⟨(.type "tuple"), none, .seq (List.toArray []) 0, List.toArray []⟩) .nil .nil)) (.node (⟨.none, none, .fields (List.toArray []), List.toArray []⟩) (.node (⟨(.type "getset_descriptor"), none, .fields (List.toArray [(ks "__dict__" 639), (.ref 350), (.builtin "function.__dict__"), (.builtin "function.__dict__#set")]), List.toArray []⟩) (.node (fg (stA 48) "_law_is_right") .nil .nil) .nil) (.node (fo (stA 27) "tell_ahead" "emacs.editing" 785 .none (.ref 478)) .nil .nil)))) (.node (⟨(.type "code"), none, .fields (List.toArray [(ks "Opaque" 231), (ks "Opaque" 232), (ks "/claim/cut.py" 233), (.int (11) 0), (.int (0) 0), (.int (0) 0), (.int (0) 0), (.int (0) 0), (.ref 45), (.bool false), (.int (181) 0), (.ref 46), .none, .none, .none, .none, (.int (234) 0), (.int (11) 0), (ks "/claim/cut.py" 235)]), List.toArray []⟩) (.node (⟨(.type "dict"), none, .dict (List.toArray [ke P "__module__" 280 (ks "emacs.markers" 271), ke P "__qualname__" 282 (ks "Marker" 281), ke P "__firstlineno__" 284 (.int (22) 283), ke P "__init__" 293 (.ref 90), ke P "shown" 300 (.ref 97), ke P "kind" 307 (.ref 104), ke P "same_as" 315 (.ref 111), ke P "__static_attributes__" 320 (.ref 112)]) 8, List.toArray []⟩) (.node (⟨(.type "code"), none, .fields (List.toArray [(ks "put" 350), (ks "Markers.put" 351), (ks "/claim/cut.py" 352), (.int (46) 0), (.int (3) 0), (.int (0) 0), (.int (0) 0), (.int (3) 0), (.ref 138), (.bool true), (.int (181) 0), (.ref 139), .none, (.ref 140), (.ref 141), (.ref 142), (.int (356) 0), (.int (46) 0), (ks "/claim/cut.py" 357)]), List.toArray []⟩) (.node (⟨(.type "tuple"), none, .seq (List.toArray []) 0, List.toArray []⟩) (.node (fg (stA 34) "insert_at") .nil .nil) .nil) (.node (⟨.none, none, .fields (List.toArray []), List.toArray []⟩) .nil .nil)) (.node (fo (stB 12 0) "MarkRing.__init__" "emacs.marks" 431 .none (.ref 206)) (.node (⟨.none, none, .fields (List.toArray []), List.toArray []⟩) (.node (⟨(.type "tuple"), none, .seq (List.toArray []) 0, List.toArray []⟩) .nil .nil) .nil) (.node (fg (stA 25) "need_writable") .nil .nil))) (.node (fo (stB 6 3) "Marker.same_as" "emacs.markers" 271 .none (.ref 110)) (.node (⟨(.type "tuple"), none, .seq (List.toArray [(ks "self" 404), (ks "start" 405), (ks "end" 406), (ks "many" 407)]) 0, List.toArray []⟩) (.node (fg (stB 21 4) "GapText.move_gap") (.node (⟨.none, none, .fields (List.toArray []), List.toArray []⟩) .nil .nil) .nil) (.node (⟨(.type "code"), none, .fields (List.toArray [(ks "tick" 731), (ks "Buffer.tick" 732), (ks "/claim/cut.py" 733), (.int (243) 0), (.int (1) 0), (.int (0) 0), (.int (0) 0), (.int (3) 0), (.ref 426), (.bool true), (.int (181) 0), (.ref 427), .none, (.ref 428), (.ref 429), (.ref 430), (.int (735) 0), (.int (243) 0), (ks "/claim/cut.py" 736)]), List.toArray []⟩) .nil .nil)) (.node (⟨(.type "tuple"), none, .seq (List.toArray []) 0, List.toArray []⟩) (.node (fg (stB 23 0) "Buffer.__init__") .nil .nil) (.node (⟨.none, none, .fields (List.toArray []), List.toArray []⟩) .nil .nil))))) (.node (⟨(.type "builtin_function_or_method"), none, .fields (List.toArray [(.builtin "type.__prepare__"), (.type "type")]), List.toArray []⟩) (.node (⟨(.type "getset_descriptor"), none, .fields (List.toArray [(ks "__weakref__" 220), (.ref 38), (.builtin "ExceptionGroup.__weakref__"), .none]), List.toArray []⟩) (.node (⟨(.type "dict"), none, .dict (List.toArray [ke P "__module__" 236 (ks "emacs.objects" 227), ke P "__firstlineno__" 240 (.int (11) 239), ke P "shown" 247 (.ref 55), ke P "kind" 254 (.ref 62), ke P "same_as" 262 (.ref 69), ke P "__static_attributes__" 263 (.ref 70), ke P "__dict__" 265 (.ref 73), ke P "__weakref__" 267 (.ref 74), ke P "__doc__" 268 .none]) 4, List.toArray []⟩) (.node (fg (stB 7 1) "Markers.numbers") (.node (fo (stA 19) "pop_to_mark" "emacs.marks" 431 .none (.ref 262)) (.node (fg (stA 33) "put_in") .nil .nil) .nil) (.node (⟨(.type "tuple"), none, .seq (List.toArray []) 0, List.toArray []⟩) .nil .nil)) (.node (⟨(.type "code"), none, .fields (List.toArray [(ks "MarkRing" 437), (ks "MarkRing" 438), (ks "/claim/cut.py" 439), (.int (88) 0), (.int (0) 0), (.int (0) 0), (.int (0) 0), (.int (0) 0), (.ref 197), (.bool false), (.int (181) 0), (.ref 198), .none, .none, .none, .none, (.int (440) 0), (.int (88) 0), (ks "/claim/cut.py" 441)]), List.toArray []⟩) (.node (⟨(.type "tuple"), none, .seq (List.toArray []) 0, List.toArray []⟩) (.node (fo (stA 44) "_law_clipped" "law_np0074_01" 917 .none (.ref 582)) .nil .nil) .nil) (.node (⟨(.type "dict"), none, .dict (List.toArray [ke P "__module__" 655 (ks "emacs.buffer" 646), ke P "__firstlineno__" 659 (.int (194) 658), ke P "__init__" 670 (.ref 369), ke P "shown" 677 (.ref 376), ke P "kind" 684 (.ref 383), ke P "begin" 691 (.ref 390), ke P "end" 698 (.ref 397), ke P "size" 705 (.ref 404), ke P "code_at" 713 (.ref 411), ke P "codes" 722 (.ref 418), ke P "goto" 730 (.ref 425), ke P "tick" 737 (.ref 432), ke P "is_modified" 744 (.ref 439), ke P "set_modified" 752 (.ref 446), ke P "touch" 760 (.ref 453), ke P "__static_attributes__" 781 (.ref 454), ke P "__doc__" 782 .none]) 2, List.toArray []⟩) .nil .nil))) (.node (⟨(.type "code"), none, .fields (List.toArray [(ks "kind" 301), (ks "Marker.kind" 302), (ks "/claim/cut.py" 303), (.int (33) 0), (.int (1) 0), (.int (0) 0), (.int (0) 0), (.int (3) 0), (.ref 98), (.bool true), (.int (181) 0), (.ref 99), .none, (.ref 100), (.ref 101), (.ref 102), (.int (305) 0), (.int (33) 0), (ks "/claim/cut.py" 306)]), List.toArray []⟩) (.node (⟨.none, none, .fields (List.toArray []), List.toArray []⟩) (.node (⟨(.type "tuple"), none, .seq (List.toArray []) 0, List.toArray []⟩) (.node (⟨(.type "tuple"), none, .seq (List.toArray []) 0, List.toArray []⟩) .nil .nil) .nil) (.node (fg (stB 23 8) "Buffer.goto") .nil .nil)) (.node (⟨(.type "tuple"), none, .seq (List.toArray [(ks "buffer" 484)]) 0, List.toArray []⟩) (.node (⟨.none, none, .fields (List.toArray [(.int (196) 0), (.int (4) 0), (.ref 368), (.int (218) 0), (.int (4) 0), (.ref 375), (.int (221) 0), (.int (4) 0), (.ref 382), (.int (224) 0), (.int (4) 0), (.ref 389), (.int (227) 0), (.int (4) 0), (.ref 396), (.int (230) 0), (.int (4) 0), (.ref 403), (.int (233) 0), (.int (4) 0), (.ref 410), (.int (236) 0), (.int (4) 0), (.ref 417), (.int (239) 0), (.int (4) 0), (.ref 424), (.int (243) 0), (.int (4) 0), (.ref 431), (.int (246) 0), (.int (4) 0), (.ref 438), (.int (249) 0), (.int (4) 0), (.ref 445), (.int (252) 0), (.int (4) 0), (.ref 452)]), List.toArray []⟩) .nil .nil) (.node (⟨(.type "tuple"), none, .seq (List.toArray []) 0, List.toArray []⟩) .nil .nil)))) (.node (fo (stB 4 0) "Opaque.shown" "emacs.objects" 227 .none (.ref 54)) (.node (⟨(.type "tuple"), none, .seq (List.toArray []) 0, List.toArray []⟩) (.node (fo (stB 7 3) "Markers.drop" "emacs.markers" 271 .none (.ref 150)) (.node (⟨.none, none, .fields (List.toArray []), List.toArray []⟩) (.node (⟨(.type "code"), none, .fields (List.toArray [(ks "delete" 885), (ks "delete" 886), (ks "/claim/cut.py" 887), (.int (311) 0), (.int (3) 0), (.int (0) 0), (.int (0) 0), (.int (3) 0), (.ref 530), (.bool true), (.int (181) 0), (.ref 531), .none, (.ref 532), (.ref 533), (.ref 534), (.int (894) 0), (.int (311) 0), (ks "/claim/cut.py" 895)]), List.toArray []⟩) .nil .nil) .nil) (.node (⟨(.type "tuple"), none, .seq (List.toArray [(ks "self" 709), (ks "place" 710)]) 0, List.toArray []⟩) .nil .nil)) (.node (⟨(.type "tuple"), none, .seq (List.toArray []) 0, List.toArray []⟩) (.node (⟨(.type "tuple"), none, .seq (List.toArray [(ks "self" 630)]) 0, List.toArray []⟩) (.node (⟨.none, none, .fields (List.toArray []), List.toArray []⟩) .nil .nil) .nil) (.node (⟨(.type "code"), none, .fields (List.toArray [(ks "reached" 794), (ks "reached" 795), (ks "/claim/cut.py" 796), (.int (260) 0), (.int (3) 0), (.int (0) 0), (.int (0) 0), (.int (3) 0), (.ref 466), (.bool true), (.int (181) 0), (.ref 467), .none, (.ref 468), (.ref 469), (.ref 470), (.int (802) 0), (.int (260) 0), (ks "/claim/cut.py" 803)]), List.toArray []⟩) .nil .nil))) (.node (⟨(.type "dict"), none, .dict (List.toArray [ke P "__module__" 331 (ks "emacs.markers" 271), ke P "__qualname__" 333 (ks "Markers" 332), ke P "__firstlineno__" 335 (.int (38) 334), ke P "__init__" 342 (.ref 130), ke P "numbers" 349 (.ref 137), ke P "put" 358 (.ref 144), ke P "drop" 366 (.ref 151), ke P "within" 377 (.ref 158), ke P "inserted" 389 (.ref 165), ke P "deleted" 400 (.ref 172), ke P "replaced" 410 (.ref 179), ke P "__static_attributes__" 412 (.ref 180)]) 12, List.toArray []⟩) (.node (⟨(.type "getset_descriptor"), none, .fields (List.toArray [(ks "__dict__" 413), (.ref 182), (.builtin "function.__dict__"), (.builtin "function.__dict__#set")]), List.toArray []⟩) (.node (⟨(.type "code"), none, .fields (List.toArray [(ks "widen_gap" 583), (ks "GapText.widen_gap" 584), (ks "/claim/cut.py" 585), (.int (163) 0), (.int (2) 0), (.int (0) 0), (.int (0) 0), (.int (3) 0), (.ref 306), (.bool true), (.int (181) 0), (.ref 307), .none, (.ref 308), (.ref 309), (.ref 310), (.int (589) 0), (.int (163) 0), (ks "/claim/cut.py" 590)]), List.toArray []⟩) (.node (fg (stA 42) "_law_deck") .nil .nil) .nil) (.node (fo (stB 23 10) "Buffer.is_modified" "emacs.buffer" 646 .none (.ref 438)) .nil .nil)) (.node (fg (stA 17) "push_mark") (.node (⟨(.type "code"), none, .fields (List.toArray [(ks "shown" 671), (ks "Buffer.shown" 672), (ks "/claim/cut.py" 673), (.int (218) 0), (.int (1) 0), (.int (0) 0), (.int (0) 0), (.int (3) 0), (.ref 370), (.bool true), (.int (181) 0), (.ref 371), .none, (.ref 372), (.ref 373), (.ref 374), (.int (675) 0), (.int (218) 0), (ks "/claim/cut.py" 676)]), List.toArray []⟩) .nil .nil) (.node (⟨(.type "tuple"), none, .seq (List.toArray [(ks "buffer" 848), (ks "start" 849), (ks "end" 850)]) 0, List.toArray []⟩) .nil .nil)))))) (.node (⟨(.type "tuple"), none, .seq (List.toArray []) 0, List.toArray []⟩) (.node (fg (stA 0) "_wall") (.node (fo (stB 2 0) "LispSignal.__init__" "emacs.errors" 194 .none (.ref 34)) (.node (fg (stB 4 2) "Opaque.same_as") (.node (⟨(.type "tuple"), none, .seq (List.toArray []) 0, List.toArray []⟩) (.node (⟨(.type "tuple"), none, .seq (List.toArray [(ks "ring" 521), (ks "buffer" 522)]) 0, List.toArray []⟩) (.node (⟨(.type "tuple"), none, .seq (List.toArray []) 0, List.toArray []⟩) .nil .nil) .nil) (.node (⟨(.type "tuple"), none, .seq (List.toArray []) 0, List.toArray []⟩) .nil .nil)) (.node (⟨(.type "builtin_function_or_method"), none, .fields (List.toArray [(.builtin "type.__prepare__"), (.type "type")]), List.toArray []⟩) (.node (⟨(.type "tuple"), none, .seq (List.toArray []) 0, List.toArray []⟩) (.node (⟨(.type "tuple"), none, .seq (List.toArray [(ks "place" 954), (ks "size" 955)]) 0, List.toArray []⟩) .nil .nil) .nil) (.node (fg (stB 23 12) "Buffer.touch") .nil .nil))) (.node (⟨.none, none, .fields (List.toArray []), List.toArray []⟩) (.node (fg (stB 7 5) "Markers.inserted") (.node (fo (stB 21 2) "GapText.code" "emacs.gap" 526 .none (.ref 290)) (.node (⟨(.type "tuple"), none, .seq (List.toArray []) 0, List.toArray []⟩) .nil .nil) .nil) (.node (⟨(.type "tuple"), none, .seq (List.toArray []) 0, List.toArray []⟩) .nil .nil)) (.node (⟨(.type "code"), none, .fields (List.toArray [(ks "has_mark" 474), (ks "has_mark" 475), (ks "/claim/cut.py" 476), (.int (98) 0), (.int (1) 0), (.int (0) 0), (.int (0) 0), (.int (3) 0), (.ref 222), (.bool true), (.int (181) 0), (.ref 223), .none, (.ref 224), (.ref 225), (.ref 226), (.int (478) 0), (.int (98) 0), (ks "/claim/cut.py" 479)]), List.toArray []⟩) (.node (⟨(.type "tuple"), none, .seq (List.toArray [(.ref 72)]) 0, List.toArray []⟩) (.node (⟨.none, none, .fields (List.toArray []), List.toArray []⟩) .nil .nil) .nil) (.node (⟨(.type "tuple"), none, .seq (List.toArray []) 0, List.toArray []⟩) .nil .nil)))) (.node (⟨(.type "tuple"), none, .seq (List.toArray [(ks "self" 244)]) 0, List.toArray []⟩) (.node (⟨(.type "frame"), none, .plain, List.toArray [(some (.ref 82)), (some (.ref 3)), (some (.ref 79)), none, (some (ks "emacs.markers" 271)), none, (some (.ref 0))]⟩) (.node (⟨(.type "tuple"), none, .seq (List.toArray [(ks "self" 362), (ks "marker" 363)]) 0, List.toArray []⟩) (.node (fg (stB 21 0) "GapText.__init__") (.node (⟨.none, none, .fields (List.toArray []), List.toArray []⟩) .nil .nil) .nil) (.node (⟨(.type "code"), none, .fields (List.toArray [(ks "size" 699), (ks "Buffer.size" 700), (ks "/claim/cut.py" 701), (.int (230) 0), (.int (1) 0), (.int (0) 0), (.int (0) 0), (.int (3) 0), (.ref 398), (.bool true), (.int (181) 0), (.ref 399), .none, (.ref 400), (.ref 401), (.ref 402), (.int (703) 0), (.int (230) 0), (ks "/claim/cut.py" 704)]), List.toArray []⟩) .nil .nil)) (.node (⟨(.type "getset_descriptor"), none, .fields (List.toArray [(ks "__dict__" 459), (.ref 210), (.builtin "function.__dict__"), (.builtin "function.__dict__#set")]), List.toArray []⟩) (.node (⟨(.type "code"), none, .fields (List.toArray [(ks "narrow_gap" 620), (ks "GapText.narrow_gap" 621), (ks "/claim/cut.py" 622), (.int (188) 0), (.int (1) 0), (.int (0) 0), (.int (0) 0), (.int (3) 0), (.ref 334), (.bool true), (.int (181) 0), (.ref 335), .none, (.ref 336), (.ref 337), (.ref 338), (.int (624) 0), (.int (188) 0), (ks "/claim/cut.py" 625)]), List.toArray []⟩) (.node (fg (stA 46) "_law_popped") .nil .nil) .nil) (.node (⟨.none, none, .fields (List.toArray []), List.toArray []⟩) .nil .nil))) (.node (⟨(.type "super"), none, .fields (List.toArray [(.ref 114), (.ref 114), (.ref 114)]), List.toArray []⟩) (.node (fo (stB 7 7) "Markers.replaced" "emacs.markers" 271 .none (.ref 178)) (.node (⟨.none, none, .fields (List.toArray []), List.toArray []⟩) (.node (⟨(.type "code"), none, .fields (List.toArray [(ks "_law_pick" 929), (ks "_law_pick" 930), (ks "/claim/cut.py" 931), (.int (338) 0), (.int (2) 0), (.int (0) 0), (.int (0) 0), (.int (3) 0), (.ref 558), (.bool true), (.int (181) 0), (.ref 559), .none, (.ref 560), (.ref 561), (.ref 562), (.int (934) 0), (.int (338) 0), (ks "/claim/cut.py" 935)]), List.toArray []⟩) .nil .nil) .nil) (.node (⟨(.type "tuple"), none, .seq (List.toArray [(ks "self" 741)]) 0, List.toArray []⟩) .nil .nil)) (.node (⟨(.type "tuple"), none, .seq (List.toArray []) 0, List.toArray []⟩) (.node (⟨.none, none, .fields (List.toArray []), List.toArray []⟩) .nil .nil) (.node (⟨(.type "code"), none, .fields (List.toArray [(ks "text_in" 836), (ks "text_in" 837), (ks "/claim/cut.py" 838), (.int (280) 0), (.int (3) 0), (.int (0) 0), (.int (0) 0), (.int (3) 0), (.ref 494), (.bool true), (.int (181) 0), (.ref 495), .none, (.ref 496), (.ref 497), (.ref 498), (.int (842) 0), (.int (280) 0), (ks "/claim/cut.py" 843)]), List.toArray []⟩) .nil .nil))))) (.node (⟨(.type "code"), none, .fields (List.toArray [(ks "LispSignal" 198), (ks "LispSignal" 199), (ks "/claim/cut.py" 200), (.int (5) 0), (.int (0) 0), (.int (0) 0), (.int (0) 0), (.int (0) 0), (.ref 25), (.bool false), (.int (181) 0), (.ref 26), .none, .none, .none, .none, (.int (201) 0), (.int (5) 0), (ks "/claim/cut.py" 202)]), List.toArray []⟩) (.node (⟨(.type "builtin_function_or_method"), none, .fields (List.toArray [(.builtin "type.__prepare__"), (.type "type")]), List.toArray []⟩) (.node (⟨(.type "super"), none, .fields (List.toArray [(.ref 72), (.ref 72), (.ref 72)]), List.toArray []⟩) (.node (⟨.none, none, .fields (List.toArray []), List.toArray []⟩) (.node (⟨(.type "tuple"), none, .seq (List.toArray []) 0, List.toArray []⟩) (.node (⟨(.type "tuple"), none, .seq (List.toArray []) 0, List.toArray []⟩) .nil .nil) .nil) (.node (fg (stB 23 4) "Buffer.end") .nil .nil)) (.node (⟨(.type "tuple"), none, .seq (List.toArray [(ks "self" 450), (ks "most" 451)]) 0, List.toArray []⟩) (.node (fg (stB 21 8) "GapText.put") (.node (⟨(.type "tuple"), none, .seq (List.toArray []) 0, List.toArray []⟩) .nil .nil) .nil) (.node (⟨(.type "tuple"), none, .seq (List.toArray []) 0, List.toArray []⟩) .nil .nil))) (.node (⟨(.type "tuple"), none, .seq (List.toArray [(ks "self" 311), (ks "other" 312)]) 0, List.toArray []⟩) (.node (⟨(.type "code"), none, .fields (List.toArray [(ks "deleted" 390), (ks "Markers.deleted" 391), (ks "/claim/cut.py" 392), (.int (67) 0), (.int (3) 0), (.int (0) 0), (.int (0) 0), (.int (3) 0), (.ref 166), (.bool true), (.int (181) 0), (.ref 167), .none, (.ref 168), (.ref 169), (.ref 170), (.int (398) 0), (.int (67) 0), (ks "/claim/cut.py" 399)]), List.toArray []⟩) (.node (⟨(.type "tuple"), none, .seq (List.toArray []) 0, List.toArray []⟩) (.node (fg (stA 40) "_law_draw") .nil .nil) .nil) (.node (⟨.none, none, .fields (List.toArray []), List.toArray []⟩) .nil .nil)) (.node (fo (stA 15) "mark_place" "emacs.marks" 431 .none (.ref 234)) (.node (⟨(.type "tuple"), none, .seq (List.toArray []) 0, List.toArray []⟩) .nil .nil) (.node (fg (stA 29) "text_out") .nil .nil)))) (.node (⟨(.type "tuple"), none, .seq (List.toArray []) 0, List.toArray []⟩) (.node (⟨(.type "tuple"), none, .seq (List.toArray []) 0, List.toArray []⟩) (.node (⟨(.type "tuple"), none, .seq (List.toArray []) 0, List.toArray []⟩) (.node (⟨(.type "code"), none, .fields (List.toArray [(ks "size" 549), (ks "GapText.size" 550), (ks "/claim/cut.py" 551), (.int (136) 0), (.int (1) 0), (.int (0) 0), (.int (0) 0), (.int (3) 0), (.ref 278), (.bool true), (.int (181) 0), (.ref 279), .none, (.ref 280), (.ref 281), (.ref 282), (.int (553) 0), (.int (136) 0), (ks "/claim/cut.py" 554)]), List.toArray []⟩) (.node (⟨(.type "tuple"), none, .seq (List.toArray [(ks "buffer" 902), (ks "start" 903), (ks "end" 904), (ks "low" 905), (ks "high" 906)]) 0, List.toArray []⟩) .nil .nil) .nil) (.node (fo (stB 23 6) "Buffer.code_at" "emacs.buffer" 646 .none (.ref 410)) .nil .nil)) (.node (fg (stA 13) "set_mark") (.node (fo (stB 21 10) "GapText.is_whole" "emacs.gap" 526 .none (.ref 346)) (.node (⟨(.type "code"), none, .fields (List.toArray [(ks "_law_pushed" 979), (ks "_law_pushed" 980), (ks "/claim/cut.py" 981), (.int (361) 0), (.int (3) 0), (.int (0) 0), (.int (0) 0), (.int (3) 0), (.ref 598), (.bool true), (.int (181) 0), (.ref 599), .none, (.ref 600), (.ref 601), (.ref 602), (.int (987) 0), (.int (361) 0), (ks "/claim/cut.py" 988)]), List.toArray []⟩) .nil .nil) .nil) (.node (⟨(.type "tuple"), none, .seq (List.toArray [(ks "buffer" 808), (ks "start" 809), (ks "end" 810), (ks "listener" 811)]) 0, List.toArray []⟩) .nil .nil))) (.node (⟨(.type "frame"), none, .plain, List.toArray [(some (.ref 122)), (some (.ref 3)), (some (.ref 119)), none, (some (ks "emacs.markers" 271)), none, (some (.ref 0))]⟩) (.node (⟨(.type "tuple"), none, .seq (List.toArray []) 0, List.toArray []⟩) (.node (⟨(.type "tuple"), none, .seq (List.toArray [(ks "self" 595), (ks "at" 596), (ks "codes" 597)]) 0, List.toArray []⟩) (.node (⟨.none, none, .fields (List.toArray []), List.toArray []⟩) .nil .nil) .nil) (.node (⟨(.type "tuple"), none, .seq (List.toArray []) 0, List.toArray []⟩) .nil .nil)) (.node (⟨.none, none, .fields (List.toArray []), List.toArray []⟩) (.node (⟨(.type "tuple"), none, .seq (List.toArray [(ks "self" 681)]) 0, List.toArray []⟩) .nil .nil) (.node (fo (stA 31) "hung_out" "emacs.editing" 785 .none (.ref 506)) .nil .nil))))))) (.node (boot_o_5 P) (.node (boot_o_9 P) (.node (⟨(.type "tuple"), none, .seq (List.toArray [(ks "k" 190)]) 0, List.toArray []⟩) (.node (fg (stB 2 0) "LispSignal.__init__") (.node (⟨(.type "tuple"), none, .seq (List.toArray [(ks "self" 258), (ks "other" 259)]) 0, List.toArray []⟩) (.node (⟨(.type "code"), none, .fields (List.toArray [(ks "__init__" 336), (ks "Markers.__init__" 337), (ks "/claim/cut.py" 338), (.int (40) 0), (.int (1) 0), (.int (0) 0), (.int (0) 0), (.int (3) 0), (.ref 124), (.bool true), (.int (181) 0), (.ref 125), .none, (.ref 126), (.ref 127), (.ref 128), (.int (340) 0), (.int (40) 0), (ks "/claim/cut.py" 341)]), List.toArray []⟩) (.node (⟨(.type "tuple"), none, .seq (List.toArray []) 0, List.toArray []⟩) (.node (⟨(.type "code"), none, .fields (List.toArray [(ks "hung_in" 854), (ks "hung_in" 855), (ks "/claim/cut.py" 856), (.int (292) 0), (.int (4) 0), (.int (0) 0), (.int (0) 0), (.int (3) 0), (.ref 508), (.bool true), (.int (181) 0), (.ref 509), .none, (.ref 510), (.ref 511), (.ref 512), (.int (861) 0), (.int (292) 0), (ks "/claim/cut.py" 862)]), List.toArray []⟩) .nil .nil) .nil) (.node (⟨.none, none, .fields (List.toArray []), List.toArray []⟩) .nil .nil)) (.node (fo (stA 9) "set_marker" "emacs.placing" 420 .none (.ref 192)) (.node (⟨.none, none, .fields (List.toArray []), List.toArray []⟩) (.node (⟨(.type "tuple"), none, .seq (List.toArray []) 0, List.toArray []⟩) .nil .nil) .nil) (.node (⟨(.type "tuple"), none, .seq (List.toArray [(ks "self" 756), (ks "are_codes" 757)]) 0, List.toArray []⟩) .nil .nil))) (.node (fo (stB 6 1) "Marker.shown" "emacs.markers" 271 .none (.ref 96)) (.node (⟨(.type "tuple"), none, .seq (List.toArray [(ks "self" 381), (ks "start" 382), (ks "end" 383), (ks "is_before" 384), (ks "number" 385), (ks "marker" 386)]) 0, List.toArray []⟩) (.node (fg (stB 21 2) "GapText.code") (.node (⟨.none, none, .fields (List.toArray []), List.toArray []⟩) .nil .nil) .nil) (.node (⟨(.type "code"), none, .fields (List.toArray [(ks "codes" 714), (ks "Buffer.codes" 715), (ks "/claim/cut.py" 716), (.int (236) 0), (.int (3) 0), (.int (0) 0), (.int (0) 0), (.int (3) 0), (.ref 412), (.bool true), (.int (181) 0), (.ref 413), .none, (.ref 414), (.ref 415), (.ref 416), (.int (720) 0), (.int (236) 0), (ks "/claim/cut.py" 721)]), List.toArray []⟩) .nil .nil)) (.node (⟨(.type "tuple"), none, .seq (List.toArray []) 0, List.toArray []⟩) (.node (⟨(.type "super"), none, .fields (List.toArray [(.ref 350), (.ref 350), (.ref 350)]), List.toArray []⟩) (.node (fo (stA 48) "_law_is_right" "law_np0074_01" 917 .none (.ref 608)) .nil .nil) .nil) (.node (⟨.none, none, .fields (List.toArray []), List.toArray []⟩) .nil .nil)))) (.node (⟨(.type "tuple"), none, .seq (List.toArray []) 0, List.toArray []⟩) (.node (⟨.none, none, .fields (List.toArray [(.int (24) 0), (.int (4) 0), (.ref 89), (.int (30) 0), (.int (4) 0), (.ref 96), (.int (33) 0), (.int (4) 0), (.ref 103), (.int (36) 0), (.int (4) 0), (.ref 110)]), List.toArray []⟩) (.node (⟨(.type "tuple"), none, .seq (List.toArray []) 0, List.toArray []⟩) (.node (⟨(.type "tuple"), none, .seq (List.toArray [(ks "self" 543), (ks "codes" 544), (ks "room" 545)]) 0, List.toArray []⟩) (.node (fo (stA 34) "insert_at" "emacs.editing" 785 (.ref 522) (.ref 528)) .nil .nil) .nil) (.node (⟨(.type "tuple"), none, .seq (List.toArray []) 0, List.toArray []⟩) .nil .nil)) (.node (⟨(.type "dict"), none, .dict (List.toArray [ke P "__module__" 442 (ks "emacs.marks" 431), ke P "__firstlineno__" 446 (.int (88) 445), ke P "__init__" 454 (.ref 207), ke P "__static_attributes__" 458 (.ref 208), ke P "__dict__" 460 (.ref 211), ke P "__weakref__" 462 (.ref 212), ke P "__doc__" 463 .none]) 4, List.toArray []⟩) (.node (⟨(.type "tuple"), none, .seq (List.toArray []) 0, List.toArray []⟩) (.node (⟨(.type "tuple"), none, .seq (List.toArray [(ks "model" 972), (ks "most" 973), (ks "mark" 974), (ks "ring" 975)]) 0, List.toArray []⟩) .nil .nil) .nil) (.node (fo (stA 25) "need_writable" "emacs.editing" 785 .none (.ref 464)) .nil .nil))) (.node (⟨(.type "dict"), none, .dict (List.toArray [ke P "__module__" 280 (ks "emacs.markers" 271), ke P "__firstlineno__" 284 (.int (22) 283), ke P "__init__" 293 (.ref 90), ke P "shown" 300 (.ref 97), ke P "kind" 307 (.ref 104), ke P "same_as" 315 (.ref 111), ke P "__static_attributes__" 320 (.ref 112), ke P "__doc__" 321 .none]) 2, List.toArray []⟩) (.node (fg (stB 7 7) "Markers.replaced") (.node (fo (stB 21 4) "GapText.move_gap" "emacs.gap" 526 .none (.ref 304)) (.node (⟨(.type "tuple"), none, .seq (List.toArray []) 0, List.toArray []⟩) .nil .nil) .nil) (.node (⟨(.type "tuple"), none, .seq (List.toArray []) 0, List.toArray []⟩) .nil .nil)) (.node (⟨(.type "code"), none, .fields (List.toArray [(ks "ring_marker" 488), (ks "ring_marker" 489), (ks "/claim/cut.py" 490), (.int (104) 0), (.int (3) 0), (.int (0) 0), (.int (0) 0), (.int (3) 0), (.ref 236), (.bool true), (.int (181) 0), (.ref 237), .none, (.ref 238), (.ref 239), (.ref 240), (.int (495) 0), (.int (104) 0), (ks "/claim/cut.py" 496)]), List.toArray []⟩) (.node (fo (stB 23 0) "Buffer.__init__" "emacs.buffer" 646 (.ref 362) (.ref 368)) .nil .nil) (.node (⟨(.type "tuple"), none, .seq (List.toArray []) 0, List.toArray []⟩) .nil .nil))))) (.node (⟨(.type "tuple"), none, .seq (List.toArray []) 0, List.toArray []⟩) (.node (⟨(.type "builtin_function_or_method"), none, .fields (List.toArray [(.builtin "object.__init_subclass__"), (.ref 38)]), List.toArray []⟩) (.node (⟨(.type "getset_descriptor"), none, .fields (List.toArray [(ks "__dict__" 264), (.ref 72), (.builtin "function.__dict__"), (.builtin "function.__dict__#set")]), List.toArray []⟩) (.node (fo (stB 7 1) "Markers.numbers" "emacs.markers" 271 .none (.ref 136)) (.node (⟨(.type "builtin_function_or_method"), none, .fields (List.toArray [(.builtin "type.__prepare__"), (.type "type")]), List.toArray []⟩) (.node (fo (stA 33) "put_in" "emacs.editing" 785 .none (.ref 520)) .nil .nil) .nil) (.node (⟨(.type "tuple"), none, .seq (List.toArray [(ks "self" 695)]) 0, List.toArray []⟩) .nil .nil)) (.node (⟨(.type "tuple"), none, .seq (List.toArray []) 0, List.toArray []⟩) (.node (⟨(.type "tuple"), none, .seq (List.toArray [(ks "self" 614), (ks "at" 615), (ks "code" 616)]) 0, List.toArray []⟩) (.node (⟨.none, none, .fields (List.toArray []), List.toArray []⟩) .nil .nil) .nil) (.node (⟨(.type "super"), none, .fields (List.toArray [(.ref 456), (.ref 456), (.ref 456)]), List.toArray []⟩) .nil .nil))) (.node (⟨(.type "tuple"), none, .seq (List.toArray []) 0, List.toArray []⟩) (.node (⟨(.type "tuple"), none, .seq (List.toArray []) 0, List.toArray []⟩) (.node (⟨(.type "code"), none, .fields (List.toArray [(ks "codes" 564), (ks "GapText.codes" 565), (ks "/claim/cut.py" 566), (.int (144) 0), (.int (3) 0), (.int (0) 0), (.int (0) 0), (.int (3) 0), (.ref 292), (.bool true), (.int (181) 0), (.ref 293), .none, (.ref 294), (.ref 295), (.ref 296), (.int (571) 0), (.int (144) 0), (ks "/claim/cut.py" 572)]), List.toArray []⟩) (.node (⟨(.type "tuple"), none, .seq (List.toArray [(ks "deck" 922), (ks "many" 923), (ks "turn_here" 924), (ks "cell" 925)]) 0, List.toArray []⟩) .nil .nil) .nil) (.node (fo (stB 23 8) "Buffer.goto" "emacs.buffer" 646 .none (.ref 424)) .nil .nil)) (.node (fg (stA 15) "mark_place") (.node (⟨(.type "frame"), none, .plain, List.toArray [(some (.ref 360)), (some (.ref 3)), (some (.ref 357)), none, (some (ks "emacs.buffer" 646)), none, (some (.ref 0))]⟩) .nil .nil) (.node (⟨(.type "tuple"), none, .seq (List.toArray [(ks "buffer" 829), (ks "start" 830), (ks "end" 831), (ks "gone" 832)]) 0, List.toArray []⟩) .nil .nil)))) (.node (⟨.none, none, .fields (List.toArray []), List.toArray []⟩) (.node (⟨(.type "code"), none, .fields (List.toArray [(ks "__init__" 285), (ks "Marker.__init__" 286), (ks "/claim/cut.py" 287), (.int (24) 0), (.int (3) 0), (.int (0) 0), (.int (0) 0), (.int (3) 0), (.ref 84), (.bool true), (.int (181) 0), (.ref 85), .none, (.ref 86), (.ref 87), (.ref 88), (.int (291) 0), (.int (24) 0), (ks "/claim/cut.py" 292)]), List.toArray []⟩) (.node (⟨.none, none, .fields (List.toArray []), List.toArray []⟩) (.node (⟨(.type "tuple"), none, .seq (List.toArray []) 0, List.toArray []⟩) (.node (⟨(.type "tuple"), none, .seq (List.toArray []) 0, List.toArray []⟩) .nil .nil) .nil) (.node (fg (stB 23 6) "Buffer.code_at") .nil .nil)) (.node (⟨(.type "tuple"), none, .seq (List.toArray [(ks "buffer" 469), (ks "place" 470)]) 0, List.toArray []⟩) (.node (fg (stB 21 10) "GapText.is_whole") (.node (⟨(.type "tuple"), none, .seq (List.toArray []) 0, List.toArray []⟩) .nil .nil) .nil) (.node (⟨(.type "tuple"), none, .seq (List.toArray []) 0, List.toArray []⟩) .nil .nil))) (.node (⟨.none, none, .fields (List.toArray [(.int (40) 0), (.int (4) 0), (.ref 129), (.int (43) 0), (.int (4) 0), (.ref 136), (.int (46) 0), (.int (4) 0), (.ref 143), (.int (50) 0), (.int (4) 0), (.ref 150), (.int (54) 0), (.int (4) 0), (.ref 157), (.int (61) 0), (.int (4) 0), (.ref 164), (.int (67) 0), (.int (4) 0), (.ref 171), (.int (75) 0), (.int (4) 0), (.ref 178)]), List.toArray []⟩) (.node (⟨(.type "super"), none, .fields (List.toArray [(.ref 182), (.ref 182), (.ref 182)]), List.toArray []⟩) (.node (⟨(.type "tuple"), none, .seq (List.toArray []) 0, List.toArray []⟩) (.node (fo (stA 42) "_law_deck" "law_np0074_01" 917 .none (.ref 568)) .nil .nil) .nil) (.node (⟨.none, none, .fields (List.toArray []), List.toArray []⟩) .nil .nil)) (.node (fo (stA 17) "push_mark" "emacs.marks" 431 .none (.ref 248)) (.node (⟨(.type "tuple"), none, .seq (List.toArray []) 0, List.toArray []⟩) .nil .nil) (.node (fg (stA 31) "hung_out") .nil .nil)))))) (.node (⟨(.type "code"), none, .fields (List.toArray [(ks "<module>" 182), (ks "<module>" 183), (ks "/claim/cut.py" 184), (.int (1) 0), (.int (0) 0), (.int (0) 0), (.int (0) 0), (.int (0) 0), (.ref 11), (.bool false), (.int (181) 0), (.ref 12), .none, .none, .none, .none, (.int (185) 0), (.int (1) 0), (ks "/claim/cut.py" 186)]), List.toArray []⟩) (.node (fo (stA 0) "_wall" "__main__" 164 .none (.ref 20)) (.node (⟨(.type "dict"), none, .dict (List.toArray [ke P "__module__" 203 (ks "emacs.errors" 194), ke P "__firstlineno__" 207 (.int (5) 206), ke P "__init__" 216 (.ref 35), ke P "__static_attributes__" 219 (.ref 36), ke P "__weakref__" 221 (.ref 39), ke P "__doc__" 222 .none]) 3, List.toArray []⟩) (.node (fo (stB 4 2) "Opaque.same_as" "emacs.objects" 227 .none (.ref 68)) (.node (⟨(.type "tuple"), none, .seq (List.toArray [(ks "self" 346)]) 0, List.toArray []⟩) (.node (fg (stA 19) "pop_to_mark") (.node (⟨(.type "tuple"), none, .seq (List.toArray [(ks "buffer" 867), (ks "place" 868), (ks "codes" 869), (ks "before_markers" 870), (ks "is_point_behind" 871)]) 0, List.toArray []⟩) .nil .nil) .nil) (.node (⟨(.type "code"), none, .fields (List.toArray [(ks "begin" 685), (ks "Buffer.begin" 686), (ks "/claim/cut.py" 687), (.int (224) 0), (.int (1) 0), (.int (0) 0), (.int (0) 0), (.int (3) 0), (.ref 384), (.bool true), (.int (181) 0), (.ref 385), .none, (.ref 386), (.ref 387), (.ref 388), (.int (689) 0), (.int (224) 0), (ks "/claim/cut.py" 690)]), List.toArray []⟩) .nil .nil)) (.node (⟨(.type "tuple"), none, .seq (List.toArray []) 0, List.toArray []⟩) (.node (⟨(.type "code"), none, .fields (List.toArray [(ks "delete" 601), (ks "GapText.delete" 602), (ks "/claim/cut.py" 603), (.int (175) 0), (.int (3) 0), (.int (0) 0), (.int (0) 0), (.int (3) 0), (.ref 320), (.bool true), (.int (181) 0), (.ref 321), .none, (.ref 322), (.ref 323), (.ref 324), (.int (608) 0), (.int (175) 0), (ks "/claim/cut.py" 609)]), List.toArray []⟩) (.node (fg (stA 44) "_law_clipped") .nil .nil) .nil) (.node (fo (stB 23 12) "Buffer.touch" "emacs.buffer" 646 .none (.ref 452)) .nil .nil))) (.node (⟨(.type "tuple"), none, .seq (List.toArray []) 0, List.toArray []⟩) (.node (fo (stB 7 5) "Markers.inserted" "emacs.markers" 271 .none (.ref 164)) (.node (⟨.none, none, .fields (List.toArray []), List.toArray []⟩) (.node (⟨(.type "code"), none, .fields (List.toArray [(ks "widen" 910), (ks "widen" 911), (ks "/claim/cut.py" 912), (.int (329) 0), (.int (1) 0), (.int (0) 0), (.int (0) 0), (.int (3) 0), (.ref 544), (.bool true), (.int (181) 0), (.ref 545), .none, (.ref 546), (.ref 547), (.ref 548), (.int (914) 0), (.int (329) 0), (ks "/claim/cut.py" 915)]), List.toArray []⟩) .nil .nil) .nil) (.node (⟨(.type "tuple"), none, .seq (List.toArray [(ks "self" 726), (ks "place" 727)]) 0, List.toArray []⟩) .nil .nil)) (.node (⟨(.type "tuple"), none, .seq (List.toArray []) 0, List.toArray []⟩) (.node (⟨(.type "dict"), none, .dict (List.toArray [ke P "__module__" 655 (ks "emacs.buffer" 646), ke P "__qualname__" 657 (ks "Buffer" 656), ke P "__firstlineno__" 659 (.int (194) 658), ke P "__init__" 670 (.ref 369), ke P "shown" 677 (.ref 376), ke P "kind" 684 (.ref 383), ke P "begin" 691 (.ref 390), ke P "end" 698 (.ref 397), ke P "size" 705 (.ref 404), ke P "code_at" 713 (.ref 411), ke P "codes" 722 (.ref 418), ke P "goto" 730 (.ref 425), ke P "tick" 737 (.ref 432), ke P "is_modified" 744 (.ref 439), ke P "set_modified" 752 (.ref 446), ke P "touch" 760 (.ref 453), ke P "__static_attributes__" 781 (.ref 454)]) 17, List.toArray []⟩) (.node (⟨(.type "code"), none, .fields (List.toArray [(ks "law" 996), (ks "law" 997), (ks "/claim/cut.py" 998), (.int (372) 0), (.int (1) 0), (.int (0) 0), (.int (0) 0), (.int (3) 0), (.ref 610), (.bool true), (.int (181) 0), (.ref 611), .none, .none, .none, (.ref 612), (.int (999) 0), (.int (372) 0), (ks "/claim/cut.py" 1000)]), List.toArray []⟩) .nil .nil) .nil) (.node (⟨(.type "code"), none, .fields (List.toArray [(ks "tell_behind" 815), (ks "tell_behind" 816), (ks "/claim/cut.py" 817), (.int (268) 0), (.int (4) 0), (.int (0) 0), (.int (0) 0), (.int (3) 0), (.ref 480), (.bool true), (.int (181) 0), (.ref 481), .none, (.ref 482), (.ref 483), (.ref 484), (.int (823) 0), (.int (268) 0), (ks "/claim/cut.py" 824)]), List.toArray []⟩) .nil .nil)))) (.node (fg (stB 4 0) "Opaque.shown") (.node (⟨.none, none, .fields (List.toArray []), List.toArray []⟩) (.node (fg (stB 7 3) "Markers.drop") (.node (fo (stB 21 0) "GapText.__init__" "emacs.gap" 526 .none (.ref 276)) (.node (⟨(.type "tuple"), none, .seq (List.toArray []) 0, List.toArray []⟩) .nil .nil) .nil) (.node (⟨(.type "tuple"), none, .seq (List.toArray []) 0, List.toArray []⟩) .nil .nil)) (.node (⟨(.type "super"), none, .fields (List.toArray [(.ref 210), (.ref 210), (.ref 210)]), List.toArray []⟩) (.node (⟨(.type "tuple"), none, .seq (List.toArray []) 0, List.toArray []⟩) (.node (fo (stA 46) "_law_popped" "law_np0074_01" 917 .none (.ref 596)) .nil .nil) .nil) (.node (⟨(.type "tuple"), none, .seq (List.toArray []) 0, List.toArray []⟩) .nil .nil))) (.node (⟨(.type "tuple"), none, .seq (List.toArray []) 0, List.toArray []⟩) (.node (⟨(.type "dict"), none, .dict (List.toArray [ke P "__module__" 331 (ks "emacs.markers" 271), ke P "__firstlineno__" 335 (.int (38) 334), ke P "__init__" 342 (.ref 130), ke P "numbers" 349 (.ref 137), ke P "put" 358 (.ref 144), ke P "drop" 366 (.ref 151), ke P "within" 377 (.ref 158), ke P "inserted" 389 (.ref 165), ke P "deleted" 400 (.ref 172), ke P "replaced" 410 (.ref 179), ke P "__static_attributes__" 412 (.ref 180), ke P "__dict__" 414 (.ref 183), ke P "__weakref__" 416 (.ref 184), ke P "__doc__" 417 .none]) 4, List.toArray []⟩) (.node (⟨(.type "tuple"), none, .seq (List.toArray []) 0, List.toArray []⟩) (.node (⟨(.type "tuple"), none, .seq (List.toArray []) 0, List.toArray []⟩) .nil .nil) .nil) (.node (fg (stB 23 10) "Buffer.is_modified") .nil .nil)) (.node (⟨(.type "tuple"), none, .seq (List.toArray [(ks "ring" 501), (ks "buffer" 502), (ks "place" 503), (ks "marker" 504)]) 0, List.toArray []⟩) (.node (⟨(.type "tuple"), none, .seq (List.toArray []) 0, List.toArray []⟩) .nil .nil) (.node (⟨(.type "tuple"), none, .seq (List.toArray []) 0, List.toArray []⟩) .nil .nil))))) (.node (⟨(.type "tuple"), none, .seq (List.toArray []) 0, List.toArray []⟩) (.node (⟨(.type "tuple"), none, .seq (List.toArray []) 0, List.toArray []⟩) (.node (⟨(.type "tuple"), none, .seq (List.toArray [(.ref 72)]) 0, List.toArray []⟩) (.node (⟨(.type "tuple"), none, .seq (List.toArray []) 0, List.toArray []⟩) (.node (⟨(.type "code"), none, .fields (List.toArray [(ks "GapText" 530), (ks "GapText" 531), (ks "/claim/cut.py" 532), (.int (128) 0), (.int (0) 0), (.int (0) 0), (.int (0) 0), (.int (0) 0), (.ref 267), (.bool false), (.int (181) 0), (.ref 268), .none, .none, .none, .none, (.int (533) 0), (.int (128) 0), (ks "/claim/cut.py" 534)]), List.toArray []⟩) (.node (⟨(.type "tuple"), none, .seq (List.toArray [(ks "buffer" 878), (ks "place" 879), (ks "codes" 880), (ks "before_markers" 881)]) 0, List.toArray []⟩) .nil .nil) .nil) (.node (fo (stB 23 4) "Buffer.end" "emacs.buffer" 646 .none (.ref 396)) .nil .nil)) (.node (fg (stB 12 0) "MarkRing.__init__") (.node (fo (stB 21 8) "GapText.put" "emacs.gap" 526 .none (.ref 332)) (.node (⟨(.type "code"), none, .fields (List.toArray [(ks "_law_moved" 959), (ks "_law_moved" 960), (ks "/claim/cut.py" 961), (.int (349) 0), (.int (4) 0), (.int (0) 0), (.int (0) 0), (.int (3) 0), (.ref 584), (.bool true), (.int (181) 0), (.ref 585), .none, (.ref 586), (.ref 587), (.ref 588), (.int (966) 0), (.int (349) 0), (ks "/claim/cut.py" 967)]), List.toArray []⟩) .nil .nil) .nil) (.node (⟨(.type "tuple"), none, .seq (List.toArray [(ks "buffer" 790)]) 0, List.toArray []⟩) .nil .nil))) (.node (fg (stB 6 3) "Marker.same_as") (.node (⟨(.type "tuple"), none, .seq (List.toArray []) 0, List.toArray []⟩) (.node (⟨(.type "tuple"), none, .seq (List.toArray [(ks "self" 577), (ks "at" 578), (ks "moved" 579)]) 0, List.toArray []⟩) (.node (fo (stA 40) "_law_draw" "law_np0074_01" 917 .none (.ref 556)) .nil .nil) .nil) (.node (⟨(.type "tuple"), none, .seq (List.toArray []) 0, List.toArray []⟩) .nil .nil)) (.node (⟨.none, none, .fields (List.toArray []), List.toArray []⟩) (.node (⟨(.type "tuple"), none, .seq (List.toArray [(ks "self" 664), (ks "number" 665), (ks "name" 666), (ks "room" 667)]) 0, List.toArray []⟩) .nil .nil) (.node (fo (stA 29) "text_out" "emacs.editing" 785 .none (.ref 492)) .nil .nil)))) (.node (⟨(.type "code"), none, .fields (List.toArray [(ks "kind" 248), (ks "Opaque.kind" 249), (ks "/claim/cut.py" 250), (.int (16) 0), (.int (1) 0), (.int (0) 0), (.int (0) 0), (.int (3) 0), (.ref 56), (.bool true), (.int (181) 0), (.ref 57), .none, (.ref 58), (.ref 59), (.ref 60), (.int (252) 0), (.int (16) 0), (ks "/claim/cut.py" 253)]), List.toArray []⟩) (.node (⟨(.type "tuple"), none, .seq (List.toArray [(ks "self" 297)]) 0, List.toArray []⟩) (.node (⟨(.type "code"), none, .fields (List.toArray [(ks "within" 367), (ks "Markers.within" 368), (ks "/claim/cut.py" 369), (.int (54) 0), (.int (3) 0), (.int (0) 0), (.int (0) 0), (.int (3) 0), (.ref 152), (.bool true), (.int (181) 0), (.ref 153), .none, (.ref 154), (.ref 155), (.ref 156), (.int (375) 0), (.int (54) 0), (ks "/claim/cut.py" 376)]), List.toArray []⟩) (.node (⟨(.type "tuple"), none, .seq (List.toArray []) 0, List.toArray []⟩) (.node (fg (stA 37) "narrow") .nil .nil) .nil) (.node (⟨.none, none, .fields (List.toArray []), List.toArray []⟩) .nil .nil)) (.node (fo (stA 13) "set_mark" "emacs.marks" 431 .none (.ref 220)) (.node (⟨(.type "dict"), none, .dict (List.toArray [ke P "__module__" 535 (ks "emacs.gap" 526), ke P "__firstlineno__" 539 (.int (128) 538), ke P "__init__" 548 (.ref 277), ke P "size" 555 (.ref 284), ke P "code" 563 (.ref 291), ke P "codes" 573 (.ref 298), ke P "move_gap" 582 (.ref 305), ke P "widen_gap" 591 (.ref 312), ke P "insert" 600 (.ref 319), ke P "delete" 610 (.ref 326), ke P "put" 619 (.ref 333), ke P "narrow_gap" 626 (.ref 340), ke P "is_whole" 633 (.ref 347), ke P "__static_attributes__" 638 (.ref 348), ke P "__dict__" 640 (.ref 351), ke P "__weakref__" 642 (.ref 352), ke P "__doc__" 643 .none]) 4, List.toArray []⟩) (.node (⟨(.type "tuple"), none, .seq (List.toArray []) 0, List.toArray []⟩) .nil .nil) .nil) (.node (fg (stA 27) "tell_ahead") .nil .nil))) (.node (⟨.none, none, .fields (List.toArray []), List.toArray []⟩) (.node (⟨(.type "tuple"), none, .seq (List.toArray [(ks "marker" 425), (ks "buffer" 426), (ks "place" 427)]) 0, List.toArray []⟩) (.node (fg (stB 21 6) "GapText.insert") (.node (⟨(.type "tuple"), none, .seq (List.toArray []) 0, List.toArray []⟩) .nil .nil) .nil) (.node (⟨(.type "code"), none, .fields (List.toArray [(ks "set_modified" 745), (ks "Buffer.set_modified" 746), (ks "/claim/cut.py" 747), (.int (249) 0), (.int (2) 0), (.int (0) 0), (.int (0) 0), (.int (3) 0), (.ref 440), (.bool true), (.int (181) 0), (.ref 441), .none, (.ref 442), (.ref 443), (.ref 444), (.int (750) 0), (.int (249) 0), (ks "/claim/cut.py" 751)]), List.toArray []⟩) .nil .nil)) (.node (⟨(.type "tuple"), none, .seq (List.toArray []) 0, List.toArray []⟩) (.node (fg (stB 23 2) "Buffer.kind") .nil .nil) (.node (⟨.none, none, .fields (List.toArray []), List.toArray []⟩) .nil .nil)))))))) (.node (⟨.none, none, .dict (List.toArray [ke P "type.__subclasses__.Exception.0" 223 (.int (38) 0), ke P "type.__subclasses__.Exception.n" 224 (.int (1) 0)]) 2, List.toArray []⟩) (.node (boot_o_4 P) (.node (boot_o_8 P) (.node (⟨.none, none, .fields (List.toArray []), List.toArray []⟩) (.node (⟨(.type "tuple"), none, .seq (List.toArray []) 0, List.toArray []⟩) (.node (⟨.none, none, .fields (List.toArray []), List.toArray []⟩) (.node (fg (stB 7 0) "Markers.__init__") (.node (fo (stA 18) "pop_mark" "emacs.marks" 431 .none (.ref 255)) (.node (fg (stA 32) "hung_in") .nil .nil) .nil) (.node (⟨(.type "tuple"), none, .seq (List.toArray []) 0, List.toArray []⟩) .nil .nil)) (.node (⟨(.type "code"), none, .fields (List.toArray [(ks "set_marker" 422), (ks "set_marker" 423), (ks "/claim/cut.py" 424), (.int (78) 0), (.int (3) 0), (.int (0) 0), (.int (0) 0), (.int (3) 0), (.ref 187), (.bool true), (.int (181) 0), (.ref 188), .none, (.ref 189), (.ref 190), (.ref 191), (.int (428) 0), (.int (78) 0), (ks "/claim/cut.py" 429)]), List.toArray []⟩) (.node (⟨(.type "tuple"), none, .seq (List.toArray []) 0, List.toArray []⟩) (.node (fo (stA 43) "_law_told" "law_np0074_01" 917 .none (.ref 575)) .nil .nil) .nil) (.node (⟨.none, none, .fields (List.toArray []), List.toArray []⟩) .nil .nil))) (.node (⟨(.type "code"), none, .fields (List.toArray [(ks "shown" 294), (ks "Marker.shown" 295), (ks "/claim/cut.py" 296), (.int (30) 0), (.int (1) 0), (.int (0) 0), (.int (0) 0), (.int (3) 0), (.ref 91), (.bool true), (.int (181) 0), (.ref 92), .none, (.ref 93), (.ref 94), (.ref 95), (.int (298) 0), (.int (30) 0), (ks "/claim/cut.py" 299)]), List.toArray []⟩) (.node (⟨.none, none, .fields (List.toArray []), List.toArray []⟩) (.node (⟨(.type "tuple"), none, .seq (List.toArray []) 0, List.toArray []⟩) (.node (⟨(.type "tuple"), none, .seq (List.toArray []) 0, List.toArray []⟩) .nil .nil) .nil) (.node (fg (stB 23 7) "Buffer.codes") .nil .nil)) (.node (⟨(.type "tuple"), none, .seq (List.toArray [(ks "buffer" 477)]) 0, List.toArray []⟩) (.node (⟨(.type "getset_descriptor"), none, .fields (List.toArray [(ks "__weakref__" 641), (.ref 350), (.builtin "ExceptionGroup.__weakref__"), .none]), List.toArray []⟩) (.node (⟨(.type "code"), none, .fields (List.toArray [(ks "_law_is_right" 990), (ks "_law_is_right" 991), (ks "/claim/cut.py" 992), (.int (364) 0), (.int (3) 0), (.int (0) 0), (.int (0) 0), (.int (3) 0), (.ref 605), (.bool true), (.int (181) 0), (.ref 606), .none, .none, .none, (.ref 607), (.int (993) 0), (.int (364) 0), (ks "/claim/cut.py" 994)]), List.toArray []⟩) .nil .nil) .nil) (.node (⟨(.type "tuple"), none, .seq (List.toArray []) 0, List.toArray []⟩) .nil .nil)))) (.node (⟨(.type "frame"), none, .plain, List.toArray [(some (.ref 47)), (some (.ref 3)), (some (.ref 44)), none, (some (ks "emacs.objects" 227)), none, (some (.ref 0))]⟩) (.node (⟨(.type "tuple"), none, .seq (List.toArray []) 0, List.toArray []⟩) (.node (fo (stB 7 2) "Markers.put" "emacs.markers" 271 .none (.ref 143)) (.node (⟨.none, none, .fields (List.toArray []), List.toArray []⟩) (.node (⟨(.type "code"), none, .fields (List.toArray [(ks "insert_at" 875), (ks "insert_at" 876), (ks "/claim/cut.py" 877), (.int (309) 0), (.int (4) 0), (.int (0) 0), (.int (0) 0), (.int (3) 0), (.ref 523), (.bool true), (.int (181) 0), (.ref 524), .none, (.ref 525), (.ref 526), (.ref 527), (.int (882) 0), (.int (309) 0), (ks "/claim/cut.py" 883)]), List.toArray []⟩) .nil .nil) .nil) (.node (⟨(.type "tuple"), none, .seq (List.toArray [(ks "self" 702)]) 0, List.toArray []⟩) .nil .nil)) (.node (⟨(.type "tuple"), none, .seq (List.toArray [(ks "last" 455), (ks "markers" 456), (ks "most" 457)]) 0, List.toArray []⟩) (.node (⟨(.type "tuple"), none, .seq (List.toArray [(ks "self" 623)]) 0, List.toArray []⟩) (.node (⟨.none, none, .fields (List.toArray []), List.toArray []⟩) .nil .nil) .nil) (.node (⟨(.type "code"), none, .fields (List.toArray [(ks "need_writable" 787), (ks "need_writable" 788), (ks "/claim/cut.py" 789), (.int (257) 0), (.int (1) 0), (.int (0) 0), (.int (0) 0), (.int (3) 0), (.ref 459), (.bool true), (.int (181) 0), (.ref 460), .none, (.ref 461), (.ref 462), (.ref 463), (.int (791) 0), (.int (257) 0), (ks "/claim/cut.py" 792)]), List.toArray []⟩) .nil .nil))) (.node (⟨(.type "tuple"), none, .seq (List.toArray [(ks "advances" 316), (ks "buffer" 317), (ks "number" 318), (ks "position" 319)]) 0, List.toArray []⟩) (.node (⟨(.type "tuple"), none, .seq (List.toArray []) 0, List.toArray []⟩) (.node (⟨(.type "code"), none, .fields (List.toArray [(ks "move_gap" 574), (ks "GapText.move_gap" 575), (ks "/claim/cut.py" 576), (.int (152) 0), (.int (2) 0), (.int (0) 0), (.int (0) 0), (.int (3) 0), (.ref 299), (.bool true), (.int (181) 0), (.ref 300), .none, (.ref 301), (.ref 302), (.ref 303), (.int (580) 0), (.int (152) 0), (ks "/claim/cut.py" 581)]), List.toArray []⟩) (.node (⟨(.type "tuple"), none, .seq (List.toArray [(ks "deck" 932), (ks "items" 933)]) 0, List.toArray []⟩) .nil .nil) .nil) (.node (fo (stB 23 9) "Buffer.tick" "emacs.buffer" 646 .none (.ref 431)) .nil .nil)) (.node (fg (stA 16) "ring_marker") (.node (⟨(.type "code"), none, .fields (List.toArray [(ks "__init__" 661), (ks "Buffer.__init__" 662), (ks "/claim/cut.py" 663), (.int (196) 0), (.int (4) 0), (.int (0) 0), (.int (0) 0), (.int (3) 0), (.ref 363), (.bool true), (.int (181) 0), (.ref 364), .none, (.ref 365), (.ref 366), (.ref 367), (.int (668) 0), (.int (196) 0), (ks "/claim/cut.py" 669)]), List.toArray []⟩) .nil .nil) (.node (⟨(.type "tuple"), none, .seq (List.toArray [(ks "buffer" 839), (ks "place" 840), (ks "codes" 841)]) 0, List.toArray []⟩) .nil .nil))))) (.node (⟨(.type "dict"), none, .dict (List.toArray [ke P "__module__" 203 (ks "emacs.errors" 194), ke P "__qualname__" 205 (ks "LispSignal" 204), ke P "__firstlineno__" 207 (.int (5) 206), ke P "__init__" 216 (.ref 35), ke P "__static_attributes__" 219 (.ref 36)]) 5, List.toArray []⟩) (.node (⟨(.type "super"), none, .fields (List.toArray [(.ref 38), (.ref 38), (.ref 38)]), List.toArray []⟩) (.node (⟨(.type "type"), none, .cls ⟨kn "Opaque", [(.type "object")], [(.ref 72), (.type "object")], 71, kn "Opaque", true, [], [(.ref 114), (.ref 456)], false, none, false⟩, List.toArray [none, none, (some (ks "Opaque" 229)), (some (ks "Opaque" 237)), (some (.builtin "object.__new__")), (some (.bool true))]⟩) (.node (⟨(.type "code"), none, .fields (List.toArray [(ks "numbers" 343), (ks "Markers.numbers" 344), (ks "/claim/cut.py" 345), (.int (43) 0), (.int (1) 0), (.int (0) 0), (.int (0) 0), (.int (3) 0), (.ref 131), (.bool true), (.int (181) 0), (.ref 132), .none, (.ref 133), (.ref 134), (.ref 135), (.int (347) 0), (.int (43) 0), (ks "/claim/cut.py" 348)]), List.toArray []⟩) (.node (⟨(.type "tuple"), none, .seq (List.toArray []) 0, List.toArray []⟩) (.node (⟨(.type "code"), none, .fields (List.toArray [(ks "put_in" 864), (ks "put_in" 865), (ks "/claim/cut.py" 866), (.int (297) 0), (.int (5) 0), (.int (0) 0), (.int (0) 0), (.int (3) 0), (.ref 515), (.bool true), (.int (181) 0), (.ref 516), .none, (.ref 517), (.ref 518), (.ref 519), (.int (872) 0), (.int (297) 0), (ks "/claim/cut.py" 873)]), List.toArray []⟩) .nil .nil) .nil) (.node (⟨.none, none, .fields (List.toArray []), List.toArray []⟩) .nil .nil)) (.node (⟨(.type "frame"), none, .plain, List.toArray [(some (.ref 199)), (some (.ref 3)), (some (.ref 196)), none, (some (ks "emacs.marks" 431)), none, (some (.ref 0))]⟩) (.node (⟨.none, none, .fields (List.toArray []), List.toArray []⟩) (.node (⟨(.type "tuple"), none, .seq (List.toArray []) 0, List.toArray []⟩) .nil .nil) .nil) (.node (⟨(.type "type"), none, .cls ⟨kn "Buffer", [(.ref 72)], [(.ref 456), (.ref 72), (.type "object")], 455, kn "Buffer", true, [], [], false, none, false⟩, List.toArray [(some (.ref 355)), none, (some (ks "Buffer" 648)), (some (ks "Buffer" 656)), (some (.builtin "object.__new__")), (some (.bool true))]⟩) .nil .nil))) (.node (fo (stB 6 2) "Marker.kind" "emacs.markers" 271 .none (.ref 103)) (.node (⟨(.type "tuple"), none, .seq (List.toArray [(ks "self" 393), (ks "start" 394), (ks "end" 395), (ks "number" 396), (ks "marker" 397)]) 0, List.toArray []⟩) (.node (fg (stB 21 3) "GapText.codes") (.node (⟨.none, none, .fields (List.toArray []), List.toArray []⟩) .nil .nil) .nil) (.node (⟨(.type "code"), none, .fields (List.toArray [(ks "goto" 723), (ks "Buffer.goto" 724), (ks "/claim/cut.py" 725), (.int (239) 0), (.int (2) 0), (.int (0) 0), (.int (0) 0), (.int (3) 0), (.ref 419), (.bool true), (.int (181) 0), (.ref 420), .none, (.ref 421), (.ref 422), (.ref 423), (.int (728) 0), (.int (239) 0), (ks "/claim/cut.py" 729)]), List.toArray []⟩) .nil .nil)) (.node (⟨(.type "tuple"), none, .seq (List.toArray []) 0, List.toArray []⟩) (.node (⟨(.type "code"), none, .fields (List.toArray [(ks "Buffer" 650), (ks "Buffer" 651), (ks "/claim/cut.py" 652), (.int (194) 0), (.int (0) 0), (.int (0) 0), (.int (0) 0), (.int (0) 0), (.ref 358), (.bool false), (.int (181) 0), (.ref 359), .none, .none, .none, .none, (.int (653) 0), (.int (194) 0), (ks "/claim/cut.py" 654)]), List.toArray []⟩) .nil .nil) (.node (⟨.none, none, .fields (List.toArray []), List.toArray []⟩) .nil .nil)))) (.node (⟨(.type "tuple"), none, .seq (List.toArray []) 0, List.toArray []⟩) (.node (fg (stB 6 0) "Marker.__init__") (.node (⟨(.type "tuple"), none, .seq (List.toArray []) 0, List.toArray []⟩) (.node (⟨(.type "tuple"), none, .seq (List.toArray [(ks "self" 552)]) 0, List.toArray []⟩) (.node (fo (stA 35) "delete" "emacs.editing" 785 .none (.ref 535)) .nil .nil) .nil) (.node (⟨(.type "tuple"), none, .seq (List.toArray []) 0, List.toArray []⟩) .nil .nil)) (.node (⟨.none, none, .fields (List.toArray []), List.toArray []⟩) (.node (⟨(.type "tuple"), none, .seq (List.toArray []) 0, List.toArray []⟩) (.node (⟨(.type "tuple"), none, .seq (List.toArray [(ks "model" 982), (ks "most" 983), (ks "place" 984), (ks "mark" 985), (ks "ring" 986)]) 0, List.toArray []⟩) .nil .nil) .nil) (.node (fo (stA 26) "reached" "emacs.editing" 785 .none (.ref 471)) .nil .nil))) (.node (⟨(.type "tuple"), none, .seq (List.toArray []) 0, List.toArray []⟩) (.node (⟨(.type "getset_descriptor"), none, .fields (List.toArray [(ks "__weakref__" 415), (.ref 182), (.builtin "ExceptionGroup.__weakref__"), .none]), List.toArray []⟩) (.node (fo (stB 21 5) "GapText.widen_gap" "emacs.gap" 526 .none (.ref 311)) (.node (⟨(.type "code"), none, .fields (List.toArray [(ks "_law_deck" 937), (ks "_law_deck" 938), (ks "/claim/cut.py" 939), (.int (340) 0), (.int (2) 0), (.int (0) 0), (.int (0) 0), (.int (3) 0), (.ref 565), (.bool true), (.int (181) 0), (.ref 566), .none, .none, .none, (.ref 567), (.int (940) 0), (.int (340) 0), (ks "/claim/cut.py" 941)]), List.toArray []⟩) .nil .nil) .nil) (.node (⟨(.type "tuple"), none, .seq (List.toArray []) 0, List.toArray []⟩) .nil .nil)) (.node (⟨(.type "code"), none, .fields (List.toArray [(ks "push_mark" 498), (ks "push_mark" 499), (ks "/claim/cut.py" 500), (.int (109) 0), (.int (3) 0), (.int (0) 0), (.int (0) 0), (.int (3) 0), (.ref 243), (.bool true), (.int (181) 0), (.ref 244), .none, (.ref 245), (.ref 246), (.ref 247), (.int (505) 0), (.int (109) 0), (ks "/claim/cut.py" 506)]), List.toArray []⟩) (.node (fo (stB 23 1) "Buffer.shown" "emacs.buffer" 646 .none (.ref 375)) .nil .nil) (.node (⟨(.type "tuple"), none, .seq (List.toArray []) 0, List.toArray []⟩) .nil .nil)))))) (.node (⟨.none, none, .fields (List.toArray [(.int (1) 0), (.int (0) 0), (.ref 20), (.int (5) 0), (.int (0) 0), (.ref 27), (.int (11) 0), (.int (0) 0), (.ref 47), (.int (22) 0), (.int (0) 0), (.ref 82), (.int (38) 0), (.int (0) 0), (.ref 122), (.int (78) 0), (.int (0) 0), (.ref 192), (.int (88) 0), (.int (0) 0), (.ref 199), (.int (94) 0), (.int (0) 0), (.ref 220), (.int (98) 0), (.int (0) 0), (.ref 227), (.int (100) 0), (.int (0) 0), (.ref 234), (.int (104) 0), (.int (0) 0), (.ref 241), (.int (109) 0), (.int (0) 0), (.ref 248), (.int (116) 0), (.int (0) 0), (.ref 255), (.int (125) 0), (.int (0) 0), (.ref 262), (.int (128) 0), (.int (0) 0), (.ref 269), (.int (194) 0), (.int (0) 0), (.ref 360), (.int (257) 0), (.int (0) 0), (.ref 464), (.int (260) 0), (.int (0) 0), (.ref 471), (.int (265) 0), (.int (0) 0), (.ref 478), (.int (268) 0), (.int (0) 0), (.ref 485), (.int (272) 0), (.int (0) 0), (.ref 492), (.int (280) 0), (.int (0) 0), (.ref 499), (.int (287) 0), (.int (0) 0), (.ref 506), (.int (292) 0), (.int (0) 0), (.ref 513), (.int (297) 0), (.int (0) 0), (.ref 520), (.int (309) 0), (.int (0) 0), (.ref 528), (.int (311) 0), (.int (0) 0), (.ref 535), (.int (323) 0), (.int (0) 0), (.ref 542), (.int (329) 0), (.int (0) 0), (.ref 549), (.int (332) 0), (.int (0) 0), (.ref 556), (.int (338) 0), (.int (0) 0), (.ref 563), (.int (340) 0), (.int (0) 0), (.ref 568), (.int (342) 0), (.int (0) 0), (.ref 575), (.int (347) 0), (.int (0) 0), (.ref 582), (.int (349) 0), (.int (0) 0), (.ref 589), (.int (354) 0), (.int (0) 0), (.ref 596), (.int (361) 0), (.int (0) 0), (.ref 603), (.int (364) 0), (.int (0) 0), (.ref 608), (.int (372) 0), (.int (0) 0), (.ref 613)]), List.toArray []⟩) (.node (⟨(.type "code"), none, .fields (List.toArray [(ks "_wall" 187), (ks "_wall" 188), (ks "/claim/cut.py" 189), (.int (1) 0), (.int (1) 0), (.int (0) 0), (.int (0) 0), (.int (3) 0), (.ref 15), (.bool true), (.int (181) 0), (.ref 16), .none, (.ref 17), (.ref 18), (.ref 19), (.int (191) 0), (.int (1) 0), (ks "/claim/cut.py" 192)]), List.toArray []⟩) (.node (⟨(.type "tuple"), none, .seq (List.toArray [(ks "data" 217), (ks "symbol" 218)]) 0, List.toArray []⟩) (.node (⟨(.type "code"), none, .fields (List.toArray [(ks "same_as" 255), (ks "Opaque.same_as" 256), (ks "/claim/cut.py" 257), (.int (19) 0), (.int (2) 0), (.int (0) 0), (.int (0) 0), (.int (3) 0), (.ref 63), (.bool true), (.int (181) 0), (.ref 64), .none, (.ref 65), (.ref 66), (.ref 67), (.int (260) 0), (.int (19) 0), (ks "/claim/cut.py" 261)]), List.toArray []⟩) (.node (⟨.none, none, .fields (List.toArray []), List.toArray []⟩) (.node (⟨(.type "tuple"), none, .seq (List.toArray []) 0, List.toArray []⟩) (.node (⟨.none, none, .fields (List.toArray []), List.toArray []⟩) .nil .nil) .nil) (.node (fg (stB 23 3) "Buffer.begin") .nil .nil)) (.node (⟨(.type "dict"), none, .dict (List.toArray [ke P "__module__" 442 (ks "emacs.marks" 431), ke P "__qualname__" 444 (ks "MarkRing" 443), ke P "__firstlineno__" 446 (.int (88) 445), ke P "__init__" 454 (.ref 207), ke P "__static_attributes__" 458 (.ref 208)]) 5, List.toArray []⟩) (.node (fg (stB 21 7) "GapText.delete") (.node (⟨(.type "tuple"), none, .seq (List.toArray []) 0, List.toArray []⟩) .nil .nil) .nil) (.node (⟨(.type "code"), none, .fields (List.toArray [(ks "touch" 753), (ks "Buffer.touch" 754), (ks "/claim/cut.py" 755), (.int (252) 0), (.int (2) 0), (.int (0) 0), (.int (0) 0), (.int (3) 0), (.ref 447), (.bool true), (.int (181) 0), (.ref 448), .none, (.ref 449), (.ref 450), (.ref 451), (.int (758) 0), (.int (252) 0), (ks "/claim/cut.py" 759)]), List.toArray []⟩) .nil .nil))) (.node (⟨(.type "tuple"), none, .seq (List.toArray [(ks "self" 304)]) 0, List.toArray []⟩) (.node (⟨(.type "code"), none, .fields (List.toArray [(ks "inserted" 378), (ks "Markers.inserted" 379), (ks "/claim/cut.py" 380), (.int (61) 0), (.int (4) 0), (.int (0) 0), (.int (0) 0), (.int (3) 0), (.ref 159), (.bool true), (.int (181) 0), (.ref 160), .none, (.ref 161), (.ref 162), (.ref 163), (.int (387) 0), (.int (61) 0), (ks "/claim/cut.py" 388)]), List.toArray []⟩) (.node (⟨(.type "tuple"), none, .seq (List.toArray []) 0, List.toArray []⟩) (.node (fg (stA 38) "widen") .nil .nil) .nil) (.node (⟨.none, none, .fields (List.toArray []), List.toArray []⟩) .nil .nil)) (.node (fo (stA 14) "has_mark" "emacs.marks" 431 .none (.ref 227)) (.node (⟨(.type "builtin_function_or_method"), none, .fields (List.toArray [(.builtin "type.__prepare__"), (.type "type")]), List.toArray []⟩) (.node (fg (stA 49) "law") .nil .nil) .nil) (.node (fg (stA 28) "tell_behind") .nil .nil)))) (.node (⟨(.type "tuple"), none, .seq (List.toArray []) 0, List.toArray []⟩) (.node (⟨(.type "tuple"), none, .seq (List.toArray []) 0, List.toArray []⟩) (.node (⟨(.type "tuple"), none, .seq (List.toArray []) 0, List.toArray []⟩) (.node (⟨(.type "code"), none, .fields (List.toArray [(ks "__init__" 540), (ks "GapText.__init__" 541), (ks "/claim/cut.py" 542), (.int (130) 0), (.int (3) 0), (.int (0) 0), (.int (0) 0), (.int (3) 0), (.ref 271), (.bool true), (.int (181) 0), (.ref 272), .none, (.ref 273), (.ref 274), (.ref 275), (.int (546) 0), (.int (130) 0), (ks "/claim/cut.py" 547)]), List.toArray []⟩) (.node (⟨(.type "tuple"), none, .seq (List.toArray [(ks "buffer" 888), (ks "start" 889), (ks "end" 890), (ks "low" 891), (ks "high" 892), (ks "gone" 893)]) 0, List.toArray []⟩) .nil .nil) .nil) (.node (fo (stB 23 5) "Buffer.size" "emacs.buffer" 646 .none (.ref 403)) .nil .nil)) (.node (⟨(.type "getset_descriptor"), none, .fields (List.toArray [(ks "__weakref__" 461), (.ref 210), (.builtin "ExceptionGroup.__weakref__"), .none]), List.toArray []⟩) (.node (fo (stB 21 9) "GapText.narrow_gap" "emacs.gap" 526 .none (.ref 339)) (.node (⟨(.type "code"), none, .fields (List.toArray [(ks "_law_popped" 969), (ks "_law_popped" 970), (ks "/claim/cut.py" 971), (.int (354) 0), (.int (2) 0), (.int (0) 0), (.int (0) 0), (.int (3) 0), (.ref 591), (.bool true), (.int (181) 0), (.ref 592), .none, (.ref 593), (.ref 594), (.ref 595), (.int (976) 0), (.int (354) 0), (ks "/claim/cut.py" 977)]), List.toArray []⟩) .nil .nil) .nil) (.node (⟨(.type "tuple"), none, .seq (List.toArray [(ks "buffer" 797), (ks "start" 798), (ks "end" 799), (ks "low" 800), (ks "high" 801)]) 0, List.toArray []⟩) .nil .nil))) (.node (⟨(.type "builtin_function_or_method"), none, .fields (List.toArray [(.builtin "object.__init_subclass__"), (.ref 114)]), List.toArray []⟩) (.node (⟨(.type "tuple"), none, .seq (List.toArray [(ks "rows" 411)]) 0, List.toArray []⟩) (.node (⟨(.type "tuple"), none, .seq (List.toArray [(ks "self" 586), (ks "wanted" 587), (ks "lack" 588)]) 0, List.toArray []⟩) (.node (fo (stA 41) "_law_pick" "law_np0074_01" 917 .none (.ref 563)) .nil .nil) .nil) (.node (⟨(.type "tuple"), none, .seq (List.toArray []) 0, List.toArray []⟩) .nil .nil)) (.node (⟨.none, none, .fields (List.toArray []), List.toArray []⟩) (.node (⟨(.type "tuple"), none, .seq (List.toArray [(ks "self" 674)]) 0, List.toArray []⟩) .nil .nil) (.node (fo (stA 30) "text_in" "emacs.editing" 785 .none (.ref 499)) .nil .nil))))) (.node (⟨(.type "frame"), none, .plain, List.toArray [(some (.ref 27)), (some (.ref 3)), (some (.ref 24)), none, (some (ks "emacs.errors" 194)), none, (some (.ref 0))]⟩) (.node (⟨(.type "dict"), none, .dict (List.toArray [ke P "__module__" 236 (ks "emacs.objects" 227), ke P "__qualname__" 238 (ks "Opaque" 237), ke P "__firstlineno__" 240 (.int (11) 239), ke P "shown" 247 (.ref 55), ke P "kind" 254 (.ref 62), ke P "same_as" 262 (.ref 69), ke P "__static_attributes__" 263 (.ref 70)]) 7, List.toArray []⟩) (.node (⟨(.type "builtin_function_or_method"), none, .fields (List.toArray [(.builtin "object.__init_subclass__"), (.ref 72)]), List.toArray []⟩) (.node (⟨(.type "tuple"), none, .seq (List.toArray [(ks "self" 353), (ks "marker" 354), (ks "position" 355)]) 0, List.toArray []⟩) (.node (⟨.none, none, .fields (List.toArray [(.int (130) 0), (.int (4) 0), (.ref 276), (.int (136) 0), (.int (4) 0), (.ref 283), (.int (139) 0), (.int (4) 0), (.ref 290), (.int (144) 0), (.int (4) 0), (.ref 297), (.int (152) 0), (.int (4) 0), (.ref 304), (.int (163) 0), (.int (4) 0), (.ref 311), (.int (169) 0), (.int (4) 0), (.ref 318), (.int (175) 0), (.int (4) 0), (.ref 325), (.int (185) 0), (.int (4) 0), (.ref 332), (.int (188) 0), (.int (4) 0), (.ref 339), (.int (191) 0), (.int (4) 0), (.ref 346)]), List.toArray []⟩) (.node (⟨.none, none, .fields (List.toArray []), List.toArray []⟩) .nil .nil) .nil) (.node (⟨(.type "code"), none, .fields (List.toArray [(ks "end" 692), (ks "Buffer.end" 693), (ks "/claim/cut.py" 694), (.int (227) 0), (.int (1) 0), (.int (0) 0), (.int (0) 0), (.int (3) 0), (.ref 391), (.bool true), (.int (181) 0), (.ref 392), .none, (.ref 393), (.ref 394), (.ref 395), (.int (696) 0), (.int (227) 0), (ks "/claim/cut.py" 697)]), List.toArray []⟩) .nil .nil)) (.node (⟨(.type "tuple"), none, .seq (List.toArray []) 0, List.toArray []⟩) (.node (⟨(.type "code"), none, .fields (List.toArray [(ks "put" 611), (ks "GapText.put" 612), (ks "/claim/cut.py" 613), (.int (185) 0), (.int (3) 0), (.int (0) 0), (.int (0) 0), (.int (3) 0), (.ref 327), (.bool true), (.int (181) 0), (.ref 328), .none, (.ref 329), (.ref 330), (.ref 331), (.int (617) 0), (.int (185) 0), (ks "/claim/cut.py" 618)]), List.toArray []⟩) (.node (fg (stA 45) "_law_moved") .nil .nil) .nil) (.node (⟨.none, none, .fields (List.toArray []), List.toArray []⟩) .nil .nil))) (.node (⟨(.type "tuple"), none, .seq (List.toArray []) 0, List.toArray []⟩) (.node (fo (stB 7 6) "Markers.deleted" "emacs.markers" 271 .none (.ref 171)) (.node (⟨.none, none, .fields (List.toArray []), List.toArray []⟩) (.node (⟨(.type "code"), none, .fields (List.toArray [(ks "_law_draw" 919), (ks "_law_draw" 920), (ks "/claim/cut.py" 921), (.int (332) 0), (.int (2) 0), (.int (0) 0), (.int (0) 0), (.int (3) 0), (.ref 551), (.bool true), (.int (181) 0), (.ref 552), .none, (.ref 553), (.ref 554), (.ref 555), (.int (926) 0), (.int (332) 0), (ks "/claim/cut.py" 927)]), List.toArray []⟩) .nil .nil) .nil) (.node (⟨(.type "tuple"), none, .seq (List.toArray [(ks "self" 734)]) 0, List.toArray []⟩) .nil .nil)) (.node (⟨(.type "tuple"), none, .seq (List.toArray []) 0, List.toArray []⟩) (.node (⟨.none, none, .fields (List.toArray []), List.toArray []⟩) .nil .nil) (.node (⟨(.type "code"), none, .fields (List.toArray [(ks "text_out" 826), (ks "text_out" 827), (ks "/claim/cut.py" 828), (.int (272) 0), (.int (3) 0), (.int (0) 0), (.int (0) 0), (.int (3) 0), (.ref 487), (.bool true), (.int (181) 0), (.ref 488), .none, (.ref 489), (.ref 490), (.ref 491), (.int (833) 0), (.int (272) 0), (ks "/claim/cut.py" 834)]), List.toArray []⟩) .nil .nil)))) (.node (fg (stB 4 1) "Opaque.kind") (.node (⟨.none, none, .fields (List.toArray []), List.toArray []⟩) (.node (fg (stB 7 4) "Markers.within") (.node (fo (stB 21 1) "GapText.size" "emacs.gap" 526 .none (.ref 283)) (.node (⟨(.type "tuple"), none, .seq (List.toArray []) 0, List.toArray []⟩) .nil .nil) .nil) (.node (⟨(.type "tuple"), none, .seq (List.toArray []) 0, List.toArray []⟩) .nil .nil)) (.node (⟨(.type "code"), none, .fields (List.toArray [(ks "set_mark" 466), (ks "set_mark" 467), (ks "/claim/cut.py" 468), (.int (94) 0), (.int (2) 0), (.int (0) 0), (.int (0) 0), (.int (3) 0), (.ref 215), (.bool true), (.int (181) 0), (.ref 216), .none, (.ref 217), (.ref 218), (.ref 219), (.int (471) 0), (.int (94) 0), (ks "/claim/cut.py" 472)]), List.toArray []⟩) (.node (⟨(.type "tuple"), none, .seq (List.toArray [(ks "cells" 634), (ks "gap_end" 635), (ks "gap_start" 636), (ks "room" 637)]) 0, List.toArray []⟩) (.node (fo (stA 47) "_law_pushed" "law_np0074_01" 917 .none (.ref 603)) .nil .nil) .nil) (.node (⟨(.type "tuple"), none, .seq (List.toArray []) 0, List.toArray []⟩) .nil .nil))) (.node (⟨(.type "tuple"), none, .seq (List.toArray []) 0, List.toArray []⟩) (.node (⟨.none, none, .fields (List.toArray []), List.toArray []⟩) (.node (⟨(.type "tuple"), none, .seq (List.toArray []) 0, List.toArray []⟩) (.node (⟨(.type "tuple"), none, .seq (List.toArray [(ks "ask" 946), (ks "signal_here" 947)]) 0, List.toArray []⟩) .nil .nil) .nil) (.node (fg (stB 23 11) "Buffer.set_modified") .nil .nil)) (.node (⟨(.type "tuple"), none, .seq (List.toArray [(ks "ring" 511), (ks "buffer" 512), (ks "place" 513), (ks "newest" 514)]) 0, List.toArray []⟩) (.node (⟨(.type "tuple"), none, .seq (List.toArray []) 0, List.toArray []⟩) .nil .nil) (.node (⟨(.type "tuple"), none, .seq (List.toArray []) 0, List.toArray []⟩) .nil .nil))))))) (.node (boot_o_6 P) (.node (boot_o_10 P) (.node (⟨(.type "tuple"), none, .seq (List.toArray []) 0, List.toArray []⟩) (.node (⟨(.type "code"), none, .fields (List.toArray [(ks "__init__" 208), (ks "LispSignal.__init__" 209), (ks "/claim/cut.py" 210), (.int (7) 0), (.int (3) 0), (.int (0) 0), (.int (0) 0), (.int (3) 0), (.ref 29), (.bool true), (.int (181) 0), (.ref 30), .none, (.ref 31), (.ref 32), (.ref 33), (.int (214) 0), (.int (7) 0), (ks "/claim/cut.py" 215)]), List.toArray []⟩) (.node (⟨(.type "tuple"), none, .seq (List.toArray []) 0, List.toArray []⟩) (.node (fo (stB 7 0) "Markers.__init__" "emacs.markers" 271 .none (.ref 129)) (.node (⟨.none, none, .fields (List.toArray []), List.toArray []⟩) (.node (fo (stA 32) "hung_in" "emacs.editing" 785 .none (.ref 513)) .nil .nil) .nil) (.node (⟨(.type "tuple"), none, .seq (List.toArray [(ks "self" 688)]) 0, List.toArray []⟩) .nil .nil)) (.node (⟨(.type "tuple"), none, .seq (List.toArray []) 0, List.toArray []⟩) (.node (⟨(.type "tuple"), none, .seq (List.toArray [(ks "self" 604), (ks "start" 605), (ks "end" 606), (ks "gone" 607)]) 0, List.toArray []⟩) (.node (⟨.none, none, .fields (List.toArray []), List.toArray []⟩) .nil .nil) .nil) (.node (⟨(.type "tuple"), none, .seq (List.toArray []) 0, List.toArray []⟩) .nil .nil))) (.node (⟨(.type "tuple"), none, .seq (List.toArray []) 0, List.toArray []⟩) (.node (⟨(.type "tuple"), none, .seq (List.toArray []) 0, List.toArray []⟩) (.node (⟨(.type "code"), none, .fields (List.toArray [(ks "code" 556), (ks "GapText.code" 557), (ks "/claim/cut.py" 558), (.int (139) 0), (.int (2) 0), (.int (0) 0), (.int (0) 0), (.int (3) 0), (.ref 285), (.bool true), (.int (181) 0), (.ref 286), .none, (.ref 287), (.ref 288), (.ref 289), (.int (561) 0), (.int (139) 0), (ks "/claim/cut.py" 562)]), List.toArray []⟩) (.node (⟨(.type "tuple"), none, .seq (List.toArray [(ks "buffer" 913)]) 0, List.toArray []⟩) .nil .nil) .nil) (.node (fo (stB 23 7) "Buffer.codes" "emacs.buffer" 646 .none (.ref 417)) .nil .nil)) (.node (fg (stA 14) "has_mark") (.node (⟨(.type "builtin_function_or_method"), none, .fields (List.toArray [(.builtin "object.__init_subclass__"), (.ref 350)]), List.toArray []⟩) (.node (⟨(.type "tuple"), none, .seq (List.toArray []) 0, List.toArray []⟩) .nil .nil) .nil) (.node (⟨(.type "tuple"), none, .seq (List.toArray [(ks "buffer" 818), (ks "start" 819), (ks "end" 820), (ks "old_length" 821), (ks "listener" 822)]) 0, List.toArray []⟩) .nil .nil)))) (.node (⟨.none, none, .fields (List.toArray []), List.toArray []⟩) (.node (⟨(.type "code"), none, .fields (List.toArray [(ks "Marker" 275), (ks "Marker" 276), (ks "/claim/cut.py" 277), (.int (22) 0), (.int (0) 0), (.int (0) 0), (.int (0) 0), (.int (0) 0), (.ref 80), (.bool false), (.int (181) 0), (.ref 81), .none, .none, .none, .none, (.int (278) 0), (.int (22) 0), (ks "/claim/cut.py" 279)]), List.toArray []⟩) (.node (⟨.none, none, .fields (List.toArray []), List.toArray []⟩) (.node (⟨(.type "tuple"), none, .seq (List.toArray []) 0, List.toArray []⟩) (.node (⟨(.type "tuple"), none, .seq (List.toArray []) 0, List.toArray []⟩) .nil .nil) .nil) (.node (fg (stB 23 5) "Buffer.size") .nil .nil)) (.node (⟨(.type "type"), none, .cls ⟨kn "MarkRing", [(.type "object")], [(.ref 210), (.type "object")], 209, kn "MarkRing", true, [], [], false, none, false⟩, List.toArray [none, none, (some (ks "MarkRing" 435)), (some (ks "MarkRing" 443)), (some (.builtin "object.__new__")), (some (.bool true))]⟩) (.node (fg (stB 21 9) "GapText.narrow_gap") (.node (⟨(.type "tuple"), none, .seq (List.toArray []) 0, List.toArray []⟩) .nil .nil) .nil) (.node (⟨(.type "tuple"), none, .seq (List.toArray []) 0, List.toArray []⟩) .nil .nil))) (.node (⟨(.type "type"), none, .cls ⟨kn "Marker", [(.ref 72)], [(.ref 114), (.ref 72), (.type "object")], 113, kn "Marker", true, [], [], false, none, false⟩, List.toArray [(some (.ref 77)), none, (some (ks "Marker" 273)), (some (ks "Marker" 281)), (some (.builtin "object.__new__")), (some (.bool true))]⟩) (.node (⟨(.type "code"), none, .fields (List.toArray [(ks "replaced" 401), (ks "Markers.replaced" 402), (ks "/claim/cut.py" 403), (.int (75) 0), (.int (4) 0), (.int (0) 0), (.int (0) 0), (.int (3) 0), (.ref 173), (.bool true), (.int (181) 0), (.ref 174), .none, (.ref 175), (.ref 176), (.ref 177), (.int (408) 0), (.int (75) 0), (ks "/claim/cut.py" 409)]), List.toArray []⟩) (.node (⟨(.type "tuple"), none, .seq (List.toArray []) 0, List.toArray []⟩) (.node (fg (stA 41) "_law_pick") .nil .nil) .nil) (.node (⟨.none, none, .fields (List.toArray []), List.toArray []⟩) .nil .nil)) (.node (fo (stA 16) "ring_marker" "emacs.marks" 431 .none (.ref 241)) (.node (⟨(.type "tuple"), none, .seq (List.toArray []) 0, List.toArray []⟩) .nil .nil) (.node (fg (stA 30) "text_in") .nil .nil))))) (.node (⟨.none, none, .fields (List.toArray [(.int (7) 0), (.int (4) 0), (.ref 34)]), List.toArray []⟩) (.node (⟨(.type "tuple"), none, .seq (List.toArray []) 0, List.toArray []⟩) (.node (⟨(.type "getset_descriptor"), none, .fields (List.toArray [(ks "__weakref__" 266), (.ref 72), (.builtin "ExceptionGroup.__weakref__"), .none]), List.toArray []⟩) (.node (⟨(.type "tuple"), none, .seq (List.toArray []) 0, List.toArray []⟩) (.node (⟨(.type "dict"), none, .dict (List.toArray [ke P "__module__" 535 (ks "emacs.gap" 526), ke P "__qualname__" 537 (ks "GapText" 536), ke P "__firstlineno__" 539 (.int (128) 538), ke P "__init__" 548 (.ref 277), ke P "size" 555 (.ref 284), ke P "code" 563 (.ref 291), ke P "codes" 573 (.ref 298), ke P "move_gap" 582 (.ref 305), ke P "widen_gap" 591 (.ref 312), ke P "insert" 600 (.ref 319), ke P "delete" 610 (.ref 326), ke P "put" 619 (.ref 333), ke P "narrow_gap" 626 (.ref 340), ke P "is_whole" 633 (.ref 347), ke P "__static_attributes__" 638 (.ref 348)]) 15, List.toArray []⟩) (.node (⟨(.type "tuple"), none, .seq (List.toArray [(.bool false)]) 0, List.toArray []⟩) .nil .nil) .nil) (.node (⟨(.type "tuple"), none, .seq (List.toArray []) 0, List.toArray []⟩) .nil .nil)) (.node (⟨.none, none, .fields (List.toArray []), List.toArray []⟩) (.node (⟨(.type "tuple"), none, .seq (List.toArray []) 0, List.toArray []⟩) (.node (⟨(.type "tuple"), none, .seq (List.toArray [(ks "place" 962), (ks "start" 963), (ks "end" 964), (ks "many" 965)]) 0, List.toArray []⟩) .nil .nil) .nil) (.node (⟨(.type "builtin_function_or_method"), none, .fields (List.toArray [(.builtin "object.__init_subclass__"), (.ref 456)]), List.toArray []⟩) .nil .nil))) (.node (⟨.none, none, .fields (List.toArray []), List.toArray []⟩) (.node (fg (stB 7 6) "Markers.deleted") (.node (fo (stB 21 3) "GapText.codes" "emacs.gap" 526 .none (.ref 297)) (.node (⟨(.type "tuple"), none, .seq (List.toArray []) 0, List.toArray []⟩) .nil .nil) .nil) (.node (⟨(.type "tuple"), none, .seq (List.toArray []) 0, List.toArray []⟩) .nil .nil)) (.node (⟨(.type "code"), none, .fields (List.toArray [(ks "mark_place" 481), (ks "mark_place" 482), (ks "/claim/cut.py" 483), (.int (100) 0), (.int (1) 0), (.int (0) 0), (.int (0) 0), (.int (3) 0), (.ref 229), (.bool true), (.int (181) 0), (.ref 230), .none, (.ref 231), (.ref 232), (.ref 233), (.int (485) 0), (.int (100) 0), (ks "/claim/cut.py" 486)]), List.toArray []⟩) (.node (⟨(.type "tuple"), none, .seq (List.toArray [(.int (8) 660)]) 0, List.toArray []⟩) .nil .nil) (.node (⟨(.type "tuple"), none, .seq (List.toArray []) 0, List.toArray []⟩) .nil .nil)))) (.node (⟨(.type "tuple"), none, .seq (List.toArray [(ks "self" 251)]) 0, List.toArray []⟩) (.node (fo (stB 6 0) "Marker.__init__" "emacs.markers" 271 .none (.ref 89)) (.node (⟨(.type "tuple"), none, .seq (List.toArray [(ks "self" 370), (ks "start" 371), (ks "end" 372), (ks "found" 373), (ks "number" 374)]) 0, List.toArray []⟩) (.node (fg (stB 21 1) "GapText.size") (.node (⟨.none, none, .fields (List.toArray []), List.toArray []⟩) .nil .nil) .nil) (.node (⟨(.type "code"), none, .fields (List.toArray [(ks "code_at" 706), (ks "Buffer.code_at" 707), (ks "/claim/cut.py" 708), (.int (233) 0), (.int (2) 0), (.int (0) 0), (.int (0) 0), (.int (3) 0), (.ref 405), (.bool true), (.int (181) 0), (.ref 406), .none, (.ref 407), (.ref 408), (.ref 409), (.int (711) 0), (.int (233) 0), (ks "/claim/cut.py" 712)]), List.toArray []⟩) .nil .nil)) (.node (⟨(.type "tuple"), none, .seq (List.toArray []) 0, List.toArray []⟩) (.node (⟨(.type "code"), none, .fields (List.toArray [(ks "is_whole" 627), (ks "GapText.is_whole" 628), (ks "/claim/cut.py" 629), (.int (191) 0), (.int (1) 0), (.int (0) 0), (.int (0) 0), (.int (3) 0), (.ref 341), (.bool true), (.int (181) 0), (.ref 342), .none, (.ref 343), (.ref 344), (.ref 345), (.int (631) 0), (.int (191) 0), (ks "/claim/cut.py" 632)]), List.toArray []⟩) (.node (fg (stA 47) "_law_pushed") .nil .nil) .nil) (.node (⟨.none, none, .fields (List.toArray []), List.toArray []⟩) .nil .nil))) (.node (⟨(.type "code"), none, .fields (List.toArray [(ks "Markers" 326), (ks "Markers" 327), (ks "/claim/cut.py" 328), (.int (38) 0), (.int (0) 0), (.int (0) 0), (.int (0) 0), (.int (0) 0), (.ref 120), (.bool false), (.int (181) 0), (.ref 121), .none, .none, .none, .none, (.int (329) 0), (.int (38) 0), (ks "/claim/cut.py" 330)]), List.toArray []⟩) (.node (⟨(.type "builtin_function_or_method"), none, .fields (List.toArray [(.builtin "object.__init_subclass__"), (.ref 182)]), List.toArray []⟩) (.node (⟨.none, none, .fields (List.toArray []), List.toArray []⟩) (.node (⟨(.type "tuple"), none, .seq (List.toArray []) 0, List.toArray []⟩) .nil .nil) .nil) (.node (⟨(.type "tuple"), none, .seq (List.toArray [(ks "self" 748), (ks "is_so" 749)]) 0, List.toArray []⟩) .nil .nil)) (.node (⟨(.type "tuple"), none, .seq (List.toArray []) 0, List.toArray []⟩) (.node (⟨.none, none, .fields (List.toArray []), List.toArray []⟩) .nil .nil) (.node (⟨(.type "code"), none, .fields (List.toArray [(ks "hung_out" 845), (ks "hung_out" 846), (ks "/claim/cut.py" 847), (.int (287) 0), (.int (3) 0), (.int (0) 0), (.int (0) 0), (.int (3) 0), (.ref 501), (.bool true), (.int (181) 0), (.ref 502), .none, (.ref 503), (.ref 504), (.ref 505), (.int (851) 0), (.int (287) 0), (ks "/claim/cut.py" 852)]), List.toArray []⟩) .nil .nil)))))) (.node (⟨(.type "frame"), none, .plain, List.toArray [(some (.ref 13)), (some (.ref 3)), (some (.ref 3)), none, (some (ks "__main__" 164)), none, (some (.ref 0))]⟩) (.node (⟨(.type "tuple"), none, .seq (List.toArray [(.type "Exception")]) 0, List.toArray []⟩) (.node (⟨(.type "type"), none, .cls ⟨kn "LispSignal", [(.type "Exception")], [(.ref 38), (.type "Exception"), (.type "BaseException"), (.type "object")], 37, kn "LispSignal", true, [], [], false, none, false⟩, List.toArray [(some (.ref 22)), none, (some (ks "LispSignal" 196)), (some (ks "LispSignal" 204)), (some (.builtin "Exception.__new__")), (some (.bool true))]⟩) (.node (⟨(.type "tuple"), none, .seq (List.toArray []) 0, List.toArray []⟩) (.node (⟨(.type "tuple"), none, .seq (List.toArray []) 0, List.toArray []⟩) (.node (⟨(.type "code"), none, .fields (List.toArray [(ks "pop_to_mark" 518), (ks "pop_to_mark" 519), (ks "/claim/cut.py" 520), (.int (125) 0), (.int (2) 0), (.int (0) 0), (.int (0) 0), (.int (3) 0), (.ref 257), (.bool true), (.int (181) 0), (.ref 258), .none, (.ref 259), (.ref 260), (.ref 261), (.int (523) 0), (.int (125) 0), (ks "/claim/cut.py" 524)]), List.toArray []⟩) (.node (⟨(.type "tuple"), none, .seq (List.toArray []) 0, List.toArray []⟩) .nil .nil) .nil) (.node (fo (stB 23 3) "Buffer.begin" "emacs.buffer" 646 .none (.ref 389)) .nil .nil)) (.node (⟨.none, none, .fields (List.toArray [(.int (90) 0), (.int (4) 0), (.ref 206)]), List.toArray []⟩) (.node (fo (stB 21 7) "GapText.delete" "emacs.gap" 526 .none (.ref 325)) (.node (⟨(.type "code"), none, .fields (List.toArray [(ks "_law_clipped" 951), (ks "_law_clipped" 952), (ks "/claim/cut.py" 953), (.int (347) 0), (.int (2) 0), (.int (0) 0), (.int (0) 0), (.int (3) 0), (.ref 577), (.bool true), (.int (181) 0), (.ref 578), .none, (.ref 579), (.ref 580), (.ref 581), (.int (956) 0), (.int (347) 0), (ks "/claim/cut.py" 957)]), List.toArray []⟩) .nil .nil) .nil) (.node (⟨(.type "tuple"), none, .seq (List.toArray [(ks "begv" 761), (ks "codes_ticks" 762), (ks "file" 763), (ks "is_live" 764), (ks "is_read_only" 765), (ks "listeners" 766), (ks "locals" 767), (ks "mark" 768), (ks "markers" 769), (ks "name" 770), (ks "number" 771), (ks "overlays" 772), (ks "point" 773), (ks "props" 774), (ks "saved_ticks" 775), (ks "syntax" 776), (ks "text" 777), (ks "ticks" 778), (ks "undo" 779), (ks "zv" 780)]) 0, List.toArray []⟩) .nil .nil))) (.node (fg (stB 6 2) "Marker.kind") (.node (⟨(.type "tuple"), none, .seq (List.toArray []) 0, List.toArray []⟩) (.node (⟨(.type "tuple"), none, .seq (List.toArray [(ks "self" 567), (ks "start" 568), (ks "end" 569), (ks "shift" 570)]) 0, List.toArray []⟩) (.node (fo (stA 38) "widen" "emacs.narrowing" 897 .none (.ref 549)) .nil .nil) .nil) (.node (⟨(.type "tuple"), none, .seq (List.toArray []) 0, List.toArray []⟩) .nil .nil)) (.node (⟨.none, none, .fields (List.toArray []), List.toArray []⟩) (.node (⟨(.type "tuple"), none, .seq (List.toArray []) 0, List.toArray []⟩) (.node (fo (stA 49) "law" "law_np0074_01" 917 .none (.ref 613)) .nil .nil) .nil) (.node (fo (stA 28) "tell_behind" "emacs.editing" 785 .none (.ref 485)) .nil .nil)))) (.node (⟨(.type "code"), none, .fields (List.toArray [(ks "shown" 241), (ks "Opaque.shown" 242), (ks "/claim/cut.py" 243), (.int (13) 0), (.int (1) 0), (.int (0) 0), (.int (0) 0), (.int (3) 0), (.ref 49), (.bool true), (.int (181) 0), (.ref 50), .none, (.ref 51), (.ref 52), (.ref 53), (.int (245) 0), (.int (13) 0), (ks "/claim/cut.py" 246)]), List.toArray []⟩) (.node (⟨(.type "tuple"), none, .seq (List.toArray [(ks "self" 288), (ks "number" 289), (ks "advances" 290)]) 0, List.toArray []⟩) (.node (⟨(.type "code"), none, .fields (List.toArray [(ks "drop" 359), (ks "Markers.drop" 360), (ks "/claim/cut.py" 361), (.int (50) 0), (.int (2) 0), (.int (0) 0), (.int (0) 0), (.int (3) 0), (.ref 145), (.bool true), (.int (181) 0), (.ref 146), .none, (.ref 147), (.ref 148), (.ref 149), (.int (364) 0), (.int (50) 0), (ks "/claim/cut.py" 365)]), List.toArray []⟩) (.node (⟨(.type "tuple"), none, .seq (List.toArray []) 0, List.toArray []⟩) (.node (fg (stA 35) "delete") .nil .nil) .nil) (.node (⟨.none, none, .fields (List.toArray []), List.toArray []⟩) .nil .nil)) (.node (⟨(.type "builtin_function_or_method"), none, .fields (List.toArray [(.builtin "object.__init_subclass__"), (.ref 210)]), List.toArray []⟩) (.node (⟨.none, none, .fields (List.toArray []), List.toArray []⟩) (.node (⟨(.type "tuple"), none, .seq (List.toArray []) 0, List.toArray []⟩) .nil .nil) .nil) (.node (fg (stA 26) "reached") .nil .nil))) (.node (⟨(.type "builtin_function_or_method"), none, .fields (List.toArray [(.builtin "type.__prepare__"), (.type "type")]), List.toArray []⟩) (.node (⟨(.type "type"), none, .cls ⟨kn "Markers", [(.type "object")], [(.ref 182), (.type "object")], 181, kn "Markers", true, [], [], false, none, false⟩, List.toArray [none, none, (some (ks "Markers" 324)), (some (ks "Markers" 332)), (some (.builtin "object.__new__")), (some (.bool true))]⟩) (.node (fg (stB 21 5) "GapText.widen_gap") (.node (⟨.none, none, .fields (List.toArray []), List.toArray []⟩) .nil .nil) .nil) (.node (⟨(.type "code"), none, .fields (List.toArray [(ks "is_modified" 738), (ks "Buffer.is_modified" 739), (ks "/claim/cut.py" 740), (.int (246) 0), (.int (1) 0), (.int (0) 0), (.int (0) 0), (.int (3) 0), (.ref 433), (.bool true), (.int (181) 0), (.ref 434), .none, (.ref 435), (.ref 436), (.ref 437), (.int (742) 0), (.int (246) 0), (ks "/claim/cut.py" 743)]), List.toArray []⟩) .nil .nil)) (.node (⟨(.type "tuple"), none, .seq (List.toArray []) 0, List.toArray []⟩) (.node (fg (stB 23 1) "Buffer.shown") .nil .nil) (.node (⟨.none, none, .fields (List.toArray []), List.toArray []⟩) .nil .nil))))) (.node (⟨.none, none, .fields (List.toArray []), List.toArray []⟩) (.node (⟨.none, none, .fields (List.toArray [(.int (13) 0), (.int (4) 0), (.ref 54), (.int (16) 0), (.int (4) 0), (.ref 61), (.int (19) 0), (.int (4) 0), (.ref 68)]), List.toArray []⟩) (.node (⟨(.type "builtin_function_or_method"), none, .fields (List.toArray [(.builtin "type.__prepare__"), (.type "type")]), List.toArray []⟩) (.node (fg (stB 7 2) "Markers.put") (.node (⟨(.type "frame"), none, .plain, List.toArray [(some (.ref 269)), (some (.ref 3)), (some (.ref 266)), none, (some (ks "emacs.gap" 526)), none, (some (.ref 0))]⟩) (.node (⟨(.type "tuple"), none, .seq (List.toArray []) 0, List.toArray []⟩) .nil .nil) .nil) (.node (⟨(.type "tuple"), none, .seq (List.toArray []) 0, List.toArray []⟩) .nil .nil)) (.node (⟨(.type "code"), none, .fields (List.toArray [(ks "__init__" 447), (ks "MarkRing.__init__" 448), (ks "/claim/cut.py" 449), (.int (90) 0), (.int (2) 0), (.int (0) 0), (.int (0) 0), (.int (3) 0), (.ref 201), (.bool true), (.int (181) 0), (.ref 202), .none, (.ref 203), (.ref 204), (.ref 205), (.int (452) 0), (.int (90) 0), (ks "/claim/cut.py" 453)]), List.toArray []⟩) (.node (⟨(.type "tuple"), none, .seq (List.toArray []) 0, List.toArray []⟩) (.node (fo (stA 45) "_law_moved" "law_np0074_01" 917 .none (.ref 589)) .nil .nil) .nil) (.node (⟨(.type "tuple"), none, .seq (List.toArray []) 0, List.toArray []⟩) .nil .nil))) (.node (⟨(.type "code"), none, .fields (List.toArray [(ks "same_as" 308), (ks "Marker.same_as" 309), (ks "/claim/cut.py" 310), (.int (36) 0), (.int (2) 0), (.int (0) 0), (.int (0) 0), (.int (3) 0), (.ref 105), (.bool true), (.int (181) 0), (.ref 106), .none, (.ref 107), (.ref 108), (.ref 109), (.int (313) 0), (.int (36) 0), (ks "/claim/cut.py" 314)]), List.toArray []⟩) (.node (⟨.none, none, .fields (List.toArray []), List.toArray []⟩) (.node (⟨(.type "tuple"), none, .seq (List.toArray []) 0, List.toArray []⟩) (.node (⟨(.type "tuple"), none, .seq (List.toArray []) 0, List.toArray []⟩) .nil .nil) .nil) (.node (fg (stB 23 9) "Buffer.tick") .nil .nil)) (.node (⟨(.type "tuple"), none, .seq (List.toArray [(ks "ring" 491), (ks "buffer" 492), (ks "place" 493), (ks "marker" 494)]) 0, List.toArray []⟩) (.node (⟨(.type "tuple"), none, .seq (List.toArray []) 0, List.toArray []⟩) .nil .nil) (.node (⟨(.type "tuple"), none, .seq (List.toArray []) 0, List.toArray []⟩) .nil .nil)))) (.node (fo (stB 4 1) "Opaque.kind" "emacs.objects" 227 .none (.ref 61)) (.node (⟨(.type "tuple"), none, .seq (List.toArray []) 0, List.toArray []⟩) (.node (fo (stB 7 4) "Markers.within" "emacs.markers" 271 .none (.ref 157)) (.node (⟨.none, none, .fields (List.toArray []), List.toArray []⟩) (.node (⟨(.type "code"), none, .fields (List.toArray [(ks "narrow" 899), (ks "narrow" 900), (ks "/claim/cut.py" 901), (.int (323) 0), (.int (3) 0), (.int (0) 0), (.int (0) 0), (.int (3) 0), (.ref 537), (.bool true), (.int (181) 0), (.ref 538), .none, (.ref 539), (.ref 540), (.ref 541), (.int (907) 0), (.int (323) 0), (ks "/claim/cut.py" 908)]), List.toArray []⟩) .nil .nil) .nil) (.node (⟨(.type "tuple"), none, .seq (List.toArray [(ks "self" 717), (ks "start" 718), (ks "end" 719)]) 0, List.toArray []⟩) .nil .nil)) (.node (⟨(.type "tuple"), none, .seq (List.toArray []) 0, List.toArray []⟩) (.node (⟨(.type "type"), none, .cls ⟨kn "GapText", [(.type "object")], [(.ref 350), (.type "object")], 349, kn "GapText", true, [], [], false, none, false⟩, List.toArray [none, none, (some (ks "GapText" 528)), (some (ks "GapText" 536)), (some (.builtin "object.__new__")), (some (.bool true))]⟩) (.node (⟨.none, none, .fields (List.toArray []), List.toArray []⟩) .nil .nil) .nil) (.node (⟨(.type "code"), none, .fields (List.toArray [(ks "tell_ahead" 805), (ks "tell_ahead" 806), (ks "/claim/cut.py" 807), (.int (265) 0), (.int (3) 0), (.int (0) 0), (.int (0) 0), (.int (3) 0), (.ref 473), (.bool true), (.int (181) 0), (.ref 474), .none, (.ref 475), (.ref 476), (.ref 477), (.int (812) 0), (.int (265) 0), (ks "/claim/cut.py" 813)]), List.toArray []⟩) .nil .nil))) (.node (⟨(.type "tuple"), none, .seq (List.toArray [(ks "self" 339)]) 0, List.toArray []⟩) (.node (⟨(.type "tuple"), none, .seq (List.toArray []) 0, List.toArray []⟩) (.node (⟨(.type "code"), none, .fields (List.toArray [(ks "insert" 592), (ks "GapText.insert" 593), (ks "/claim/cut.py" 594), (.int (169) 0), (.int (3) 0), (.int (0) 0), (.int (0) 0), (.int (3) 0), (.ref 313), (.bool true), (.int (181) 0), (.ref 314), .none, (.ref 315), (.ref 316), (.ref 317), (.int (598) 0), (.int (169) 0), (ks "/claim/cut.py" 599)]), List.toArray []⟩) (.node (fg (stA 43) "_law_told") .nil .nil) .nil) (.node (fo (stB 23 11) "Buffer.set_modified" "emacs.buffer" 646 .none (.ref 445)) .nil .nil)) (.node (fg (stA 18) "pop_mark") (.node (⟨(.type "code"), none, .fields (List.toArray [(ks "kind" 678), (ks "Buffer.kind" 679), (ks "/claim/cut.py" 680), (.int (221) 0), (.int (1) 0), (.int (0) 0), (.int (0) 0), (.int (3) 0), (.ref 377), (.bool true), (.int (181) 0), (.ref 378), .none, (.ref 379), (.ref 380), (.ref 381), (.int (682) 0), (.int (221) 0), (ks "/claim/cut.py" 683)]), List.toArray []⟩) .nil .nil) (.node (⟨(.type "tuple"), none, .seq (List.toArray [(ks "buffer" 857), (ks "place" 858), (ks "many" 859), (ks "before_markers" 860)]) 0, List.toArray []⟩) .nil .nil)))))))))
noncomputable def ob (P : Params) (i : Nat) : Obj := match (topT P).get i with
  | some o => o
  | none => default
noncomputable def cutT (n : Nat) : BT → Nat → Nat → BT
  | .nil, _, _ => .nil
  | .node v l r, a, b => match Nat.blt b n with
    | true => .node v (cutT n l (2 * a) (a + b)) (cutT n r (2 * a) (2 * a + b))
    | false => .nil
noncomputable def cutD (o : Obj) (k n : Nat) (e : DictEntry) : Obj := match o with
  | ⟨c, d, .dict es _, s⟩ => ⟨c, d, .dict (List.toArray (e :: (es.toList.drop 1).take (k - 1))) n, s⟩
  | o => o
noncomputable def cutF (o : Obj) (k : Nat) : Obj := match o with
  | ⟨c, d, .fields vs, s⟩ => ⟨c, d, .fields (List.toArray (vs.toList.take k)), s⟩
  | o => o
noncomputable def tr_pre (P : Params) : BT := ((((cutT 15 (topT P) 1 0).set 2 fun _ => ⟨.none, none, .dict (List.toArray []) 0, List.toArray []⟩).set 3 fun _ => cutD (ob P 3) 9 9 (ke P "__name__" 165 (ks "__main__" 164))).set 12 fun _ => cutF (ob P 12) 0)
noncomputable abbrev sh_pre (P : Params) (os : OsState) : SharedT := ⟨tr_pre P, 15, {}, #[], boot_drawn, 187, os⟩
noncomputable def tr_3 (P : Params) : BT := (((cutT 42 (topT P) 1 0).set 3 fun _ => cutD (ob P 3) 11 11 (ke P "__name__" 165 (ks "emacs.objects" 227))).set 12 fun _ => cutF (ob P 12) 6)
noncomputable abbrev sh_3 (P : Params) (os : OsState) : SharedT := ⟨tr_3 P, 42, {}, #[], boot_drawn, 229, os⟩
noncomputable def tr_5 (P : Params) : BT := ((((cutT 77 (topT P) 1 0).set 3 fun _ => cutD (ob P 3) 12 12 (ke P "__name__" 165 (ks "emacs.markers" 271))).set 12 fun _ => cutF (ob P 12) 9).set 72 fun _ => ⟨(.type "type"), none, .cls ⟨kn "Opaque", [(.type "object")], [(.ref 72), (.type "object")], 71, kn "Opaque", true, [], [], false, none, false⟩, List.toArray [none, none, (some (ks "Opaque" 229)), (some (ks "Opaque" 237)), (some (.builtin "object.__new__")), (some (.bool true))]⟩)
noncomputable abbrev sh_5 (P : Params) (os : OsState) : SharedT := ⟨tr_5 P, 77, {}, #[], boot_drawn, 273, os⟩
noncomputable def tr_6 (P : Params) : BT := ((((cutT 117 (topT P) 1 0).set 3 fun _ => cutD (ob P 3) 13 13 (ke P "__name__" 165 (ks "emacs.markers" 271))).set 12 fun _ => cutF (ob P 12) 12).set 72 fun _ => ⟨(.type "type"), none, .cls ⟨kn "Opaque", [(.type "object")], [(.ref 72), (.type "object")], 71, kn "Opaque", true, [], [(.ref 114)], false, none, false⟩, List.toArray [none, none, (some (ks "Opaque" 229)), (some (ks "Opaque" 237)), (some (.builtin "object.__new__")), (some (.bool true))]⟩)
noncomputable abbrev sh_6 (P : Params) (os : OsState) : SharedT := ⟨tr_6 P, 117, {}, #[], boot_drawn, 324, os⟩
noncomputable def tr_8 (P : Params) : BT := ((((cutT 187 (topT P) 1 0).set 3 fun _ => cutD (ob P 3) 14 14 (ke P "__name__" 165 (ks "emacs.placing" 420))).set 12 fun _ => cutF (ob P 12) 15).set 72 fun _ => ⟨(.type "type"), none, .cls ⟨kn "Opaque", [(.type "object")], [(.ref 72), (.type "object")], 71, kn "Opaque", true, [], [(.ref 114)], false, none, false⟩, List.toArray [none, none, (some (ks "Opaque" 229)), (some (ks "Opaque" 237)), (some (.builtin "object.__new__")), (some (.bool true))]⟩)
noncomputable abbrev sh_8 (P : Params) (os : OsState) : SharedT := ⟨tr_8 P, 187, {}, #[], boot_drawn, 422, os⟩
noncomputable def tr_20 (P : Params) : BT := ((((cutT 264 (topT P) 1 0).set 3 fun _ => cutD (ob P 3) 24 24 (ke P "__name__" 165 (ks "emacs.gap" 526))).set 12 fun _ => cutF (ob P 12) 42).set 72 fun _ => ⟨(.type "type"), none, .cls ⟨kn "Opaque", [(.type "object")], [(.ref 72), (.type "object")], 71, kn "Opaque", true, [], [(.ref 114)], false, none, false⟩, List.toArray [none, none, (some (ks "Opaque" 229)), (some (ks "Opaque" 237)), (some (.builtin "object.__new__")), (some (.bool true))]⟩)
noncomputable abbrev sh_20 (P : Params) (os : OsState) : SharedT := ⟨tr_20 P, 264, {}, #[], boot_drawn, 528, os⟩
noncomputable def tr_22 (P : Params) : BT := ((((cutT 355 (topT P) 1 0).set 3 fun _ => cutD (ob P 3) 25 25 (ke P "__name__" 165 (ks "emacs.buffer" 646))).set 12 fun _ => cutF (ob P 12) 45).set 72 fun _ => ⟨(.type "type"), none, .cls ⟨kn "Opaque", [(.type "object")], [(.ref 72), (.type "object")], 71, kn "Opaque", true, [], [(.ref 114)], false, none, false⟩, List.toArray [none, none, (some (ks "Opaque" 229)), (some (ks "Opaque" 237)), (some (.builtin "object.__new__")), (some (.bool true))]⟩)
noncomputable abbrev sh_22 (P : Params) (os : OsState) : SharedT := ⟨tr_22 P, 355, {}, #[], boot_drawn, 648, os⟩
noncomputable def tr_24 (P : Params) : BT := (((cutT 459 (topT P) 1 0).set 3 fun _ => cutD (ob P 3) 26 26 (ke P "__name__" 165 (ks "emacs.editing" 785))).set 12 fun _ => cutF (ob P 12) 48)
noncomputable abbrev sh_24 (P : Params) (os : OsState) : SharedT := ⟨tr_24 P, 459, {}, #[], boot_drawn, 787, os⟩
noncomputable def tr_36 (P : Params) : BT := (((cutT 537 (topT P) 1 0).set 3 fun _ => cutD (ob P 3) 37 37 (ke P "__name__" 165 (ks "emacs.narrowing" 897))).set 12 fun _ => cutF (ob P 12) 81)
noncomputable abbrev sh_36 (P : Params) (os : OsState) : SharedT := ⟨tr_36 P, 537, {}, #[], boot_drawn, 899, os⟩
noncomputable def tr_49 (P : Params) : BT := (topT P)
noncomputable abbrev sh_49 (P : Params) (os : OsState) : SharedT := ⟨tr_49 P, 615, {}, #[], boot_drawn, 1002, os⟩
noncomputable def hd.heap_39 (P : Params) : Frag :=
  (nat_lit 2, ob P 2) :: (nat_lit 3, ob P 3) :: (nat_lit 20, ob P 20) :: (nat_lit 21, ob P 21) :: (nat_lit 34, ob P 34) :: (nat_lit 35, ob P 35) :: (nat_lit 37, ob P 37) :: (nat_lit 38, ob P 38) :: (nat_lit 39, ob P 39) :: (nat_lit 54, ob P 54) :: (nat_lit 55, ob P 55) :: (nat_lit 61, ob P 61) :: (nat_lit 62, ob P 62) :: (nat_lit 68, ob P 68) :: (nat_lit 69, ob P 69) :: (nat_lit 71, ob P 71) :: (nat_lit 72, ob P 72) :: (nat_lit 73, ob P 73) :: (nat_lit 74, ob P 74) :: (nat_lit 89, ob P 89) :: (nat_lit 90, ob P 90) :: (nat_lit 96, ob P 96) :: (nat_lit 97, ob P 97) :: (nat_lit 103, ob P 103) :: (nat_lit 104, ob P 104) :: (nat_lit 110, ob P 110) :: (nat_lit 111, ob P 111) :: (nat_lit 113, ob P 113) :: (nat_lit 114, ob P 114) :: (nat_lit 129, ob P 129) :: (nat_lit 130, ob P 130) :: (nat_lit 136, ob P 136) :: (nat_lit 137, ob P 137) :: (nat_lit 143, ob P 143) :: (nat_lit 144, ob P 144) :: (nat_lit 150, ob P 150) :: (nat_lit 151, ob P 151) :: (nat_lit 157, ob P 157) :: (nat_lit 158, ob P 158) :: (nat_lit 164, ob P 164) :: (nat_lit 165, ob P 165) :: (nat_lit 171, ob P 171) :: (nat_lit 172, ob P 172) :: (nat_lit 178, ob P 178) :: (nat_lit 179, ob P 179) :: (nat_lit 181, ob P 181) :: (nat_lit 182, ob P 182) :: (nat_lit 183, ob P 183) :: (nat_lit 184, ob P 184) :: (nat_lit 192, ob P 192) :: (nat_lit 193, ob P 193) :: (nat_lit 206, ob P 206) :: (nat_lit 207, ob P 207) :: (nat_lit 209, ob P 209) :: (nat_lit 210, ob P 210) :: (nat_lit 211, ob P 211) :: (nat_lit 212, ob P 212) :: (nat_lit 220, ob P 220) :: (nat_lit 221, ob P 221) :: (nat_lit 227, ob P 227) :: (nat_lit 228, ob P 228) :: (nat_lit 234, ob P 234) :: (nat_lit 235, ob P 235) :: (nat_lit 241, ob P 241) :: (nat_lit 242, ob P 242) :: (nat_lit 248, ob P 248) :: (nat_lit 249, ob P 249) :: (nat_lit 255, ob P 255) :: (nat_lit 256, ob P 256) :: (nat_lit 262, ob P 262) :: (nat_lit 263, ob P 263) :: (nat_lit 276, ob P 276) :: (nat_lit 277, ob P 277) :: (nat_lit 283, ob P 283) :: (nat_lit 284, ob P 284) :: (nat_lit 290, ob P 290) :: (nat_lit 291, ob P 291) :: (nat_lit 297, ob P 297) :: (nat_lit 298, ob P 298) :: (nat_lit 304, ob P 304) :: (nat_lit 305, ob P 305) :: (nat_lit 311, ob P 311) :: (nat_lit 312, ob P 312) :: (nat_lit 318, ob P 318) :: (nat_lit 319, ob P 319) :: (nat_lit 325, ob P 325) :: (nat_lit 326, ob P 326) :: (nat_lit 332, ob P 332) :: (nat_lit 333, ob P 333) :: (nat_lit 339, ob P 339) :: (nat_lit 340, ob P 340) :: (nat_lit 346, ob P 346) :: (nat_lit 347, ob P 347) :: (nat_lit 349, ob P 349) :: (nat_lit 350, ob P 350) :: (nat_lit 351, ob P 351) :: (nat_lit 352, ob P 352) :: (nat_lit 362, ob P 362) :: (nat_lit 368, ob P 368) :: (nat_lit 369, ob P 369) :: (nat_lit 375, ob P 375) :: (nat_lit 376, ob P 376) :: (nat_lit 382, ob P 382) :: (nat_lit 383, ob P 383) :: (nat_lit 389, ob P 389) :: (nat_lit 390, ob P 390) :: (nat_lit 396, ob P 396) :: (nat_lit 397, ob P 397) :: (nat_lit 403, ob P 403) :: (nat_lit 404, ob P 404) :: (nat_lit 410, ob P 410) :: (nat_lit 411, ob P 411) :: (nat_lit 417, ob P 417) :: (nat_lit 418, ob P 418) :: (nat_lit 424, ob P 424) :: (nat_lit 425, ob P 425) :: (nat_lit 431, ob P 431) :: (nat_lit 432, ob P 432) :: (nat_lit 438, ob P 438) :: (nat_lit 439, ob P 439) :: (nat_lit 445, ob P 445) :: (nat_lit 446, ob P 446) :: (nat_lit 452, ob P 452) :: (nat_lit 453, ob P 453) :: (nat_lit 455, ob P 455) :: (nat_lit 456, ob P 456) :: (nat_lit 464, ob P 464) :: (nat_lit 465, ob P 465) :: (nat_lit 471, ob P 471) :: (nat_lit 472, ob P 472) :: (nat_lit 478, ob P 478) :: (nat_lit 479, ob P 479) :: (nat_lit 485, ob P 485) :: (nat_lit 486, ob P 486) :: (nat_lit 492, ob P 492) :: (nat_lit 493, ob P 493) :: (nat_lit 499, ob P 499) :: (nat_lit 500, ob P 500) :: (nat_lit 506, ob P 506) :: (nat_lit 507, ob P 507) :: (nat_lit 513, ob P 513) :: (nat_lit 514, ob P 514) :: (nat_lit 520, ob P 520) :: (nat_lit 521, ob P 521) :: (nat_lit 522, ob P 522) :: (nat_lit 528, ob P 528) :: (nat_lit 529, ob P 529) :: (nat_lit 535, ob P 535) :: (nat_lit 536, ob P 536) :: (nat_lit 542, ob P 542) :: (nat_lit 543, ob P 543) :: (nat_lit 549, ob P 549) :: (nat_lit 550, ob P 550) :: (nat_lit 556, ob P 556) :: (nat_lit 557, ob P 557) :: (nat_lit 563, ob P 563) :: (nat_lit 564, ob P 564) :: (nat_lit 568, ob P 568) :: (nat_lit 569, ob P 569) :: (nat_lit 575, ob P 575) :: (nat_lit 576, ob P 576) :: (nat_lit 582, ob P 582) :: (nat_lit 583, ob P 583) :: (nat_lit 589, ob P 589) :: (nat_lit 590, ob P 590) :: (nat_lit 596, ob P 596) :: (nat_lit 597, ob P 597) :: (nat_lit 603, ob P 603) :: (nat_lit 604, ob P 604) :: (nat_lit 608, ob P 608) :: (nat_lit 609, ob P 609) :: (nat_lit 613, ob P 613) :: (nat_lit 614, ob P 614) :: []
noncomputable def hd.asAll : List Addr := [2, 3, 20, 21, 34, 35, 37, 38, 39, 54, 55, 61, 62, 68, 69, 71, 72, 73, 74, 89, 90, 96, 97, 103, 104, 110, 111, 113, 114, 129, 130, 136, 137, 143, 144, 150, 151, 157, 158, 164, 165, 171, 172, 178, 179, 181, 182, 183, 184, 192, 193, 206, 207, 209, 210, 211, 212, 220, 221, 227, 228, 234, 235, 241, 242, 248, 249, 255, 256, 262, 263, 276, 277, 283, 284, 290, 291, 297, 298, 304, 305, 311, 312, 318, 319, 325, 326, 332, 333, 339, 340, 346, 347, 349, 350, 351, 352, 362, 368, 369, 375, 376, 382, 383, 389, 390, 396, 397, 403, 404, 410, 411, 417, 418, 424, 425, 431, 432, 438, 439, 445, 446, 452, 453, 455, 456, 464, 465, 471, 472, 478, 479, 485, 486, 492, 493, 499, 500, 506, 507, 513, 514, 520, 521, 522, 528, 529, 535, 536, 542, 543, 549, 550, 556, 557, 563, 564, 568, 569, 575, 576, 582, 583, 589, 590, 596, 597, 603, 604, 608, 609, 613, 614]
noncomputable def hd.view_39 : Program := { PySem.Challenge.pw_np0074_01 with main := { PySem.Challenge.pw_np0074_01.main with body := [stA 0, stA 2, stA 4, stA 6, stA 7, stA 9, stA 11, stA 12, stA 13, stA 14, stA 15, stA 16, stA 17, stA 18, stA 19, stA 21, stA 23, stA 25, stA 26, stA 27, stA 28, stA 29, stA 30, stA 31, stA 32, stA 33, stA 35, stA 37, stA 38, stA 40, stA 41, stA 42, stA 43, stA 44, stA 45, stA 46, stA 47, stA 48, stA 49] } }
noncomputable def seg_0 : List Stmt := [stA 0, stA 1, stA 2, stA 3]
noncomputable def seg_1 : List Stmt := [stA 4, stA 5]
noncomputable def seg_2 : List Stmt := [stA 6]
noncomputable def seg_3 : List Stmt := [stA 7, stA 8]
noncomputable def seg_4 : List Stmt := [stA 9, stA 10, stA 11, stA 12, stA 13, stA 14, stA 15, stA 16, stA 17, stA 18, stA 19, stA 20]
noncomputable def seg_5 : List Stmt := [stA 21, stA 22]
noncomputable def seg_6 : List Stmt := [stA 23, stA 24]
noncomputable def seg_7 : List Stmt := [stA 25, stA 26, stA 27, stA 28, stA 29, stA 30, stA 31, stA 32, stA 33, stA 34, stA 35, stA 36]
noncomputable def seg_8 : List Stmt := [stA 37, stA 38, stA 39, stA 40, stA 41, stA 42, stA 43, stA 44, stA 45, stA 46, stA 47, stA 48, stA 49]
noncomputable abbrev topEnv : Env := { scope := PySem.Challenge.pw_np0074_01.main.scope, locals := mainNs, globals := mainNs, cells := [], code := .ref 13, frame := some 14 }
noncomputable abbrev topB : List Stmt := behindTheImports PySem.Challenge.pw_np0074_01
noncomputable abbrev topC : Code := .body topB topEnv
abbrev p0 : Pos := ⟨0, 0, 0, 0⟩
set_option maxRecDepth 1000000 in
set_option maxHeartbeats 0 in
theorem g_0 (w : World) (os : OsState) : segRunT treeTable PySem.Challenge.pw_np0074_01 w 11 (some (.ref 6)) 1 278 (sh_pre w.params os) (piecesOf seg_0 topEnv topC p0 [topFrame p0]) = some (.next, sh_3 w.params os, topC, ⟨10, 0, 10, 8⟩) := by kernel_rfl
set_option maxRecDepth 1000000 in
set_option maxHeartbeats 0 in
theorem g_1 (w : World) (os : OsState) : segRunT treeTable PySem.Challenge.pw_np0074_01 w 11 (some (.ref 6)) 1 293 (sh_3 w.params os) (piecesOf seg_1 topEnv topC (⟨10, 0, 10, 8⟩ : Pos) [topFrame p0]) = some (.next, sh_5 w.params os, topC, ⟨21, 0, 21, 8⟩) := by kernel_rfl
set_option maxRecDepth 1000000 in
set_option maxHeartbeats 0 in
theorem g_2 (w : World) (os : OsState) : segRunT treeTable PySem.Challenge.pw_np0074_01 w 11 (some (.ref 6)) 1 344 (sh_5 w.params os) (piecesOf seg_2 topEnv topC (⟨21, 0, 21, 8⟩ : Pos) [topFrame p0]) = some (.next, sh_6 w.params os, topC, ⟨22, 0, 37, 16⟩) := by kernel_rfl
set_option maxRecDepth 1000000 in
set_option maxHeartbeats 0 in
theorem g_3 (w : World) (os : OsState) : segRunT treeTable PySem.Challenge.pw_np0074_01 w 11 (some (.ref 6)) 1 467 (sh_6 w.params os) (piecesOf seg_3 topEnv topC (⟨22, 0, 37, 16⟩ : Pos) [topFrame p0]) = some (.next, sh_8 w.params os, topC, ⟨77, 0, 77, 8⟩) := by kernel_rfl
set_option maxRecDepth 1000000 in
set_option maxHeartbeats 0 in
theorem g_4 (w : World) (os : OsState) : segRunT treeTable PySem.Challenge.pw_np0074_01 w 11 (some (.ref 6)) 1 497 (sh_8 w.params os) (piecesOf seg_4 topEnv topC (⟨77, 0, 77, 8⟩ : Pos) [topFrame p0]) = some (.next, sh_20 w.params os, topC, ⟨127, 0, 127, 8⟩) := by kernel_rfl
set_option maxRecDepth 1000000 in
set_option maxHeartbeats 0 in
theorem g_5 (w : World) (os : OsState) : segRunT treeTable PySem.Challenge.pw_np0074_01 w 11 (some (.ref 6)) 1 561 (sh_20 w.params os) (piecesOf seg_5 topEnv topC (⟨127, 0, 127, 8⟩ : Pos) [topFrame p0]) = some (.next, sh_22 w.params os, topC, ⟨193, 0, 193, 8⟩) := by kernel_rfl
set_option maxRecDepth 1000000 in
set_option maxHeartbeats 0 in
theorem g_6 (w : World) (os : OsState) : segRunT treeTable PySem.Challenge.pw_np0074_01 w 11 (some (.ref 6)) 1 656 (sh_22 w.params os) (piecesOf seg_6 topEnv topC (⟨193, 0, 193, 8⟩ : Pos) [topFrame p0]) = some (.next, sh_24 w.params os, topC, ⟨256, 0, 256, 8⟩) := by kernel_rfl
set_option maxRecDepth 1000000 in
set_option maxHeartbeats 0 in
theorem g_7 (w : World) (os : OsState) : segRunT treeTable PySem.Challenge.pw_np0074_01 w 11 (some (.ref 6)) 1 363 (sh_24 w.params os) (piecesOf seg_7 topEnv topC (⟨256, 0, 256, 8⟩ : Pos) [topFrame p0]) = some (.next, sh_36 w.params os, topC, ⟨322, 0, 322, 8⟩) := by kernel_rfl
set_option maxRecDepth 1000000 in
set_option maxHeartbeats 0 in
theorem g_8 (w : World) (os : OsState) : segRunT treeTable PySem.Challenge.pw_np0074_01 w 11 (some (.ref 6)) 1 369 (sh_36 w.params os) (piecesOf seg_8 topEnv topC (⟨322, 0, 322, 8⟩ : Pos) [topFrame p0]) = some (.next, sh_49 w.params os, topC, ⟨372, 0, 409, 15⟩) := by kernel_rfl
theorem topB_eq : topB = (seg_0 ++ (seg_1 ++ (seg_2 ++ (seg_3 ++ (seg_4 ++ (seg_5 ++ (seg_6 ++ (seg_7 ++ (seg_8 ++ []))))))))) := by kernel_rfl
theorem h_open : ∀ w : World, (fencedOpening treeTable PySem.Challenge.pw_np0074_01 w 7764).map (fun s => (s.heap, s.gens, s.drawn, s.toks)) = some (boot_heap w.params, Array.mk [], boot_drawn, boot_toks) := boot_open (by kernel_rfl) (by decide) (fun _ => rfl)
theorem h_pre (w : World) (os : OsState) : topGo treeTable PySem.Challenge.pw_np0074_01 w 11 (some (.ref 6)) 12 ⟨boot_heap w.params, Array.mk [], boot_drawn, boot_toks, os⟩ (topStub PySem.Challenge.pw_np0074_01) = some ((sh_pre w.params os).abs, ⟨denote treeTable topC, topC, p0, [topFrame p0]⟩) := by kernel_rfl
theorem h_block (w : World) (os : OsState) : segRun treeTable PySem.Challenge.pw_np0074_01 w 11 (some (.ref 6)) 1 1 (sh_pre w.params os).abs (blockOf topB topEnv topC p0 [topFrame p0]) = some (.next, (sh_pre w.params os).abs, topC, p0) := by kernel_rfl
theorem h_fin (w : World) (os : OsState) : topRun treeTable PySem.Challenge.pw_np0074_01 w 11 (some (.ref 6)) 2 (sh_49 w.params os).abs ⟨doneF .next, topC, ⟨372, 0, 409, 15⟩, [topFrame p0]⟩ = some (sh_49 w.params os).abs := by kernel_rfl
theorem h_run (w : World) (os : OsState) : topRun treeTable PySem.Challenge.pw_np0074_01 w 11 (some (.ref 6)) (12 + (1 + (278 + (293 + (344 + (467 + (497 + (561 + (656 + (363 + (369 + 2))))))))))) ⟨boot_heap w.params, Array.mk [], boot_drawn, boot_toks, os⟩ (topStub PySem.Challenge.pw_np0074_01) = some (sh_49 w.params os).abs :=
  go_top (h_pre w os) (piece_block (h_block w os) ((congrArg (fun l => topRun treeTable PySem.Challenge.pw_np0074_01 w 11 (some (.ref 6)) ((278 + (293 + (344 + (467 + (497 + (561 + (656 + (363 + (369 + 2)))))))))) (sh_pre w.params os).abs (restOf l topEnv topC p0 [topFrame p0])) topB_eq).trans (piece_app (segRun_of (g_0 w os)) (piece_app (segRun_of (g_1 w os)) (piece_app (segRun_of (g_2 w os)) (piece_app (segRun_of (g_3 w os)) (piece_app (segRun_of (g_4 w os)) (piece_app (segRun_of (g_5 w os)) (piece_app (segRun_of (g_6 w os)) (piece_app (segRun_of (g_7 w os)) (piece_app (segRun_of (g_8 w os)) (piece_nil (h_fin w os)))))))))))))
theorem h_size (w : World) : ((boot_heap w.params).isNs mainGlobals && (Array.mk [] : Array GenState).size == 0, (boot_heap w.params).objs.size, (boot_heap w.params).nsMap mainGlobals "__annotations__") = (true, 11, some (.ref 6)) := by kernel_rfl
set_option maxRecDepth 1000000 in
set_option maxHeartbeats 0 in
theorem look_a (w : World) (os : OsState) : (staticsOk (importedModules PySem.Challenge.pw_np0074_01.main.body) (boot_heap w.params) (absHeap (tr_49 w.params) 615 {}) && namesBound PySem.Challenge.pw_np0074_01 (absHeap (tr_49 w.params) 615 {}) && gensDone ⟨absHeap (tr_49 w.params) 615 {}, #[], boot_drawn, 1002, os⟩ && laidKept (boot_heap w.params) (absHeap (tr_49 w.params) 615 {})) = true := by kernel_rfl
set_option maxRecDepth 1000000 in
set_option maxHeartbeats 0 in
theorem look_b (w : World) (os : OsState) : openSeen hd.view_39 [Str.ofString "Buffer", Str.ofString "insert_at"] (importedModules PySem.Challenge.pw_np0074_01.main.body) (fun s => xlAt hd.view_39 [] s && recOk (RowW.records (OpenRow.toRowW PySem.Challenge.rw_np0074_01.row)) s) true ⟨absHeap (tr_49 w.params) 615 {}, #[], boot_drawn, 1002, os⟩ = openGood hd.view_39 [Str.ofString "Buffer", Str.ofString "insert_at"] := by kernel_rfl
set_option maxRecDepth 1000000 in
set_option maxHeartbeats 0 in
theorem look_c (w : World) (os : OsState) : Hook.obs (kmHook hd.heap_39 hd.asAll (fun _ => by kernel_rfl) [611]) ⟨absHeap (tr_49 w.params) 615 {}, #[], boot_drawn, 1002, os⟩ = Hook.val (kmHook hd.heap_39 hd.asAll (fun _ => by kernel_rfl) [611]) w := by kernel_rfl
theorem h_looks : ∀ w : World, (fun os => ((staticsOk (importedModules PySem.Challenge.pw_np0074_01.main.body) (boot_heap w.params) (absHeap (tr_49 w.params) 615 {}) && namesBound PySem.Challenge.pw_np0074_01 (absHeap (tr_49 w.params) 615 {}) && gensDone ⟨absHeap (tr_49 w.params) 615 {}, #[], boot_drawn, 1002, os⟩ && laidKept (boot_heap w.params) (absHeap (tr_49 w.params) 615 {})), openSeen hd.view_39 [Str.ofString "Buffer", Str.ofString "insert_at"] (importedModules PySem.Challenge.pw_np0074_01.main.body) (fun s => xlAt hd.view_39 [] s && recOk (RowW.records (OpenRow.toRowW PySem.Challenge.rw_np0074_01.row)) s) true ⟨absHeap (tr_49 w.params) 615 {}, #[], boot_drawn, 1002, os⟩, Hook.obs (kmHook hd.heap_39 hd.asAll (fun _ => by kernel_rfl) [611]) ⟨absHeap (tr_49 w.params) 615 {}, #[], boot_drawn, 1002, os⟩)) = fun _ => (true, openGood hd.view_39 [Str.ofString "Buffer", Str.ofString "insert_at"], Hook.val (kmHook hd.heap_39 hd.asAll (fun _ => by kernel_rfl) [611]) w) :=
  fun w => funext fun os => looks_pair (look_a w os) (looks_pair (look_b w os) (look_c w os))
theorem left_all : LeftO (OpenRow.toRowW PySem.Challenge.rw_np0074_01.row).prog hd.view_39 [Str.ofString "Buffer", Str.ofString "insert_at"] (fun s => xlAt hd.view_39 [] s && recOk (RowW.records (OpenRow.toRowW PySem.Challenge.rw_np0074_01.row)) s) (Hook.obs (kmHook hd.heap_39 hd.asAll (fun _ => by kernel_rfl) [611])) (Hook.val (kmHook hd.heap_39 hd.asAll (fun _ => by kernel_rfl) [611])) 7764 :=
  LeftO.of_pieces (p := PySem.Challenge.pw_np0074_01) (H₁ := fun P => absHeap (tr_49 P) 615 {}) h_open h_size h_run (by decide) h_looks
set_option maxRecDepth 1000000 in
theorem said_a : namesResolve PySem.Challenge.pw_np0074_01 = true := by kernel_rfl
set_option maxRecDepth 1000000 in
theorem said_b : noRoadLSs { strict := !(importedModules PySem.Challenge.pw_np0074_01.main.body).all cThrough.contains, foot := none, bare := (["vars", "dir", "locals"] : List Str).filter (readsOut PySem.Challenge.pw_np0074_01 PySem.Challenge.pw_np0074_01.main.body) } PySem.Challenge.pw_np0074_01.main.body = true := by kernel_rfl
set_option maxRecDepth 1000000 in
theorem said_c : (namesMeet PySem.Challenge.pw_np0074_01 PySem.Challenge.pw_np0074_01.main.body fun _ n => attrL n) = true := by kernel_rfl
theorem said_look : looksOpen PySem.Challenge.pw_np0074_01 = true := by
  unfold looksOpen
  refine look_both (look_both (look_both (look_both (look_both ?_ ?_) said_a) ?_) said_b) said_c
  · kernel_rfl
  · kernel_rfl
  · kernel_rfl
set_option maxRecDepth 1000000 in
set_option maxHeartbeats 0 in
theorem said : PySem.Challenge.rw_np0074_01.wellSaid = true := by
  unfold OpenLaw.wellSaid
  repeat' (with_reducible refine look_both ?_ ?_)
  all_goals (try unfold OpenRow.wellSaid)
  all_goals (repeat' (with_reducible refine look_both ?_ ?_))
  all_goals (try unfold OpenRow.partSaid)
  all_goals (repeat' (with_reducible refine look_both ?_ ?_))
  · exact said_look
  all_goals kernel_rfl
structure Wd where
  prog : Program
  w : World
  p : Program
  loose : List Str
  mean : ExcName → Option Value
  mg : Str → Option Value
  mb : Str → Option Value
structure Fn where
  cn : Str
  cs : Scope
  a : Addr
  ccd : Value
  cl : List (Str × Addr)
structure Frm where
  dp : Nat
  un : Nat
  gd : Option (List Code)
  L : Addr
  outer : List Env
  A₀ : Around
  base : Heap
  h₀ : Heap
  own : List (Addr × Obj)
  sh : Shared
abbrev Fn.env (n : Fn) (f : Frm) : Env := envX n.cn n.cs f.L n.a n.ccd n.cl
abbrev Fn.A (n : Fn) (f : Frm) : Around := ktrTop f.dp f.un f.gd n.cn n.cs f.L n.a n.ccd n.cl f.outer
abbrev Wd.M (Z : Wd) : Model := model Z.prog Z.w
noncomputable abbrev Wd.K (Z : Wd) : Frag := Mine.hd.heap_39 Z.w.params
structure Ok (Z : Wd) (n : Fn) (f : Frm) (k : Nat) : Prop where
  B : Below f.A₀ f.base f.outer f.h₀
  X : Z.K.In f.h₀
  T : Top Z.p Z.loose Z.mean Z.mg Z.mb f.h₀
  fk : n.cs.kind = .function
  dp : f.dp + 2 * k < recursionLimit
  un : f.un + 40 * k < cLine
theorem Ok.le {Z : Wd} {n : Fn} {f : Frm} {k j : Nat} (O : Ok Z n f k) (h : j ≤ k) : Ok Z n f j :=
  ⟨O.B, O.X, O.T, O.fk, by have := O.dp; omega, by have := O.un; omega⟩
/-- symbolic values: their tokens are hidden -/
inductive SV where
  | none
  | bool (b : Bool)
  | int (i : Int)
  | num
  | str (s : Str)
  | ref (a : Addr)
def SV.is : SV → Value → Prop
  | .none, v => v = .none
  | .bool b, v => v = .bool b
  | .int i, v => ∃ t, v = .int i t
  | .num, v => ∃ i t, v = .int i t
  | .str x, v => ∃ t, v = .str x t
  | .ref a, v => v = .ref a
def VsAre : List SV → List Value → Prop
  | [], vs => vs = []
  | x :: xs, vs => ∃ v r, vs = v :: r ∧ x.is v ∧ VsAre xs r
def FieldsAre (w : World) : List (Str × SV) → List DictEntry → Prop
  | [], es => es = []
  | (x, v) :: r, es => ∃ t v' es', es = ⟨PyData.keyHash w.params x, .str x t, v'⟩ :: es' ∧ v.is v' ∧ FieldsAre w r es'
structure Mark where
  a : Addr
  num : Int
  pos : Int
abbrev Mark.es (B : Addr) (k : Mark) : List (Str × SV) :=
  [(Str.ofString "number", .int k.num), (Str.ofString "advances", .bool false), (Str.ofString "buffer", .ref B), (Str.ofString "position", .int k.pos)]
/-- symbolic entries of a ledger -/
inductive SE where
  | obj (a C : Addr) (es : List (Str × SV))
  | list (a : Addr) (vs : List SV)
  | anyL (a : Addr) (len : Int)
  | tup (a : Addr) (vs : List SV)
  | rows (a : Addr) (kvs : List (Int × Addr))
  | cell (a : Addr) (v : SV)
  | raw (a : Addr) (o : Obj)
  | marks (B : Addr) (ms : List Mark)
def ObjIs (w : World) (a C : Addr) (es : List (Str × SV)) (c : List (Addr × Obj)) : Prop :=
  ∃ d es' n, c = [(a, instObj C d), (d, dictOf es' n)] ∧ FieldsAre w es es'
def MarksAre (w : World) (B : Addr) : List Mark → List (Addr × Obj) → Prop
  | [], c => c = []
  | k :: ms, c => ∃ c1 c2, c = c1 ++ c2 ∧ ObjIs w k.a 114 (k.es B) c1 ∧ MarksAre w B ms c2
/-- who lies in a dict, under which number -/
structure RowsL (kvs l : List (Int × Value)) : Prop where
  perm : kvs.Perm l
  nums : (l.map (·.1)).Nodup
def SE.is (Z : Wd) : SE → List (Addr × Obj) → Prop
  | .obj a C es, c => ObjIs Z.w a C es c
  | .list a vs, c => ∃ vs' n, c = [(a, W.listOf vs'.toArray n)] ∧ VsAre vs vs'
  | .tup a vs, c => ∃ (vs' : List Value) (n : Nat), c = [(a, { cls := .type "tuple", data := .seq vs'.toArray n })] ∧ VsAre vs vs'
  | .anyL a len, c => ∃ (vs' : List Value) (n : Nat), c = [(a, W.listOf vs'.toArray n)] ∧ (vs'.length : Int) = len
  | .rows a l, c => ∃ o kvs, c = [(a, o)] ∧ o.IsDictOf (PySem.intKind Z.prog Z.w) kvs ∧ RowsL kvs (l.map fun q => (q.1, Value.ref q.2)) ∧ (a == sysModules) = false
  | .cell a v, c => ∃ o v', c = [(a, o)] ∧ o.data = .cell (some v') ∧ v.is v'
  | .raw a o, c => c = [(a, o)]
  | .marks B ms, c => MarksAre Z.w B ms c
def Exp (Z : Wd) : List SE → List (Addr × Obj) → Prop
  | [], c => c = []
  | e :: r, c => ∃ c1 c2, c = c1 ++ c2 ∧ e.is Z c1 ∧ Exp Z r c2
structure St where
  m : List (Str × SV)
  led : List SE
def LocIs (m : List (Str × SV)) (m' : Str → Option Value) : Prop := ∀ x v, m.lookup x = some v → ∃ v', m' x = some v' ∧ v.is v'
def At (Z : Wd) (f : Frm) (σ : St) (s : Shared) : Prop :=
  ∃ h tk m c, s = { f.sh with heap := h, toks := tk } ∧ Fr f.h₀ f.L h m ∧ LocIs σ.m m ∧ News f.h₀ f.L h (c ++ f.own) ∧ Exp Z σ.led c ∧ ((c ++ f.own).map (·.1)).Nodup
/-- a tree that keeps to the symbolic states -/
def Ev {α β : Type} (rel : β → α → Prop) (Z : Wd) (n : Fn) (f : Frm) (σ : St) (t : Sem α) (K : β → St → Prop) : Prop :=
  ∀ (R : α → Shared → Prop) (E : Value → Shared → Prop), (∀ v σ', K v σ' → ∀ v' s', rel v v' → At Z f σ' s' → R v' s') → ∀ s, At Z f σ s → wpAny Z.M (n.A f) t R E s
abbrev EvV := @Ev Value SV SV.is
abbrev EvL := @Ev (List Value) (List SV) VsAre
inductive Fl where
  | next | brk | cont
  | ret (v : SV)
def Fl.is : Fl → Flow → Prop
  | .next, f => f = .next
  | .brk, f => f = .brk
  | .cont, f => f = .cont
  | .ret v, f => ∃ v', f = .ret v' ∧ v.is v'
abbrev EvF := @Ev Flow Fl Fl.is
abbrev EvB := @Ev Bool Bool Eq
abbrev EvU := @Ev Unit Unit Eq
abbrev ExOk (Z : Wd) (n : Fn) (f : Frm) (σ : St) (b : List Stmt) (K : Fl → St → Prop) : Prop := EvF Z n f σ (execs b (n.env f)) K
abbrev EvOk (Z : Wd) (n : Fn) (f : Frm) (σ : St) (e : Expr) (K : SV → St → Prop) : Prop := EvV Z n f σ (eval e (n.env f)) K
def CallOk (Z : Wd) (n : Fn) (f : Frm) (σ : St) (fv : Value) (vs : List SV) (K : SV → St → Prop) : Prop := ∀ vs', VsAre vs vs' → EvV Z n f σ (call fv vs') K
def Spec (Z : Wd) (k : Nat) (fa : Addr) (vs : List SV) (led : List SE) (P : SV → List SE → Prop) : Prop :=
  ∀ n f m K, Ok Z n f k → (∀ r led', P r led' → K r ⟨m, led'⟩) → CallOk Z n f ⟨m, led⟩ (.ref fa) vs K
/-- a value and a state as concrete ones -/
theorem Ev.mono {α β : Type} {rel : β → α → Prop} {Z : Wd} {n : Fn} {f : Frm} {σ : St} {t : Sem α} {K K' : β → St → Prop} (h : Ev rel Z n f σ t K) (k : ∀ v σ', K v σ' → K' v σ') : Ev rel Z n f σ t K' :=
  fun R E hR s hs => h R E (fun v σ' hk => hR v σ' (k v σ' hk)) s hs
theorem Ev.bind {α β γ δ : Type} {rel : β → α → Prop} {rel2 : δ → γ → Prop} {Z : Wd} {n : Fn} {f : Frm} {σ : St} {t : Sem α} {T : Sem γ} {g : α → Sem γ} {K : δ → St → Prop}
    (h : Ev rel Z n f σ t fun b σ1 => ∀ a, rel b a → Ev rel2 Z n f σ1 (g a) K)
    (hT : ∀ Q E s, wpAny Z.M (n.A f) t (fun a s' => wpAny Z.M (n.A f) (g a) Q E s') E s → wpAny Z.M (n.A f) T Q E s) : Ev rel2 Z n f σ T K :=
  fun R E hR s hs => hT R E s (h _ E (fun _ _ hk a s' hr hs' => hk a hr R E hR s' hs') s hs)
theorem Ev.weak {α β : Type} {rel : β → α → Prop} {Z : Wd} {n : Fn} {f : Frm} {σ σ' : St} {t : Sem α} {K : β → St → Prop} (h : Ev rel Z n f σ' t K) (e : ∀ s, At Z f σ s → At Z f σ' s) : Ev rel Z n f σ t K :=
  fun R E hR s hs => h R E hR s (e s hs)
/-- entries found, changed, taken out -/
inductive UpdE (e e' : SE) : List SE → List SE → Prop
  | head {r} : UpdE e e' (e :: r) (e' :: r)
  | tail {q r r'} : UpdE e e' r r' → UpdE e e' (q :: r) (q :: r')
inductive Take (e : SE) : List SE → List SE → Prop
  | head {r} : Take e (e :: r) r
  | tail {q r r'} : Take e r r' → Take e (q :: r) (q :: r')
inductive Split : List SE → List SE → List SE → Prop
  | nil {r} : Split r [] r
  | cons {l l1 e ex r} : Take e l l1 → Split l1 ex r → Split l (e :: ex) r
theorem Exp.mem {Z : Wd} {e : SE} : ∀ {l : List SE} {c : List (Addr × Obj)}, e ∈ l → Exp Z l c → ∃ pre c1 post, c = pre ++ c1 ++ post ∧ e.is Z c1
  | _ :: _, _, .head _, ⟨c1, c2, e1, h1, _⟩ => ⟨[], c1, c2, e1, h1⟩
  | _ :: _, _, .tail _ hm, ⟨c1, c2, e1, _, h2⟩ => by
    obtain ⟨pre, c3, post, e2, h3⟩ := Exp.mem hm h2
    exact ⟨c1 ++ pre, c3, post, by rw [e1, e2]; simp only [List.append_assoc], h3⟩
theorem UpdE.mem {e e' : SE} {l l' : List SE} (U : UpdE e e' l l') : e ∈ l := by
  induction U with
  | head => exact .head _
  | tail _ ih => exact .tail _ ih
theorem UpdE.exp {Z : Wd} {e e' : SE} {l l' : List SE} (U : UpdE e e' l l') : ∀ {c : List (Addr × Obj)}, Exp Z l c → ∃ pre c1 post, c = pre ++ c1 ++ post ∧ e.is Z c1 ∧ ∀ c1', e'.is Z c1' → Exp Z l' (pre ++ c1' ++ post) := by
  induction U with
  | head =>
    rintro c ⟨c1, c2, e1, h1, h2⟩
    exact ⟨[], c1, c2, e1, h1, fun c1' h => ⟨c1', c2, rfl, h, h2⟩⟩
  | tail _ ih =>
    rintro c ⟨c1, c2, e1, h1, h2⟩
    obtain ⟨pre, c3, post, e2, h3, h4⟩ := ih h2
    exact ⟨c1 ++ pre, c3, post, by rw [e1, e2]; simp only [List.append_assoc], h3, fun c1' h => ⟨c1, pre ++ c1' ++ post, by simp only [List.append_assoc], h1, h4 c1' h⟩⟩
theorem Exp.app {Z : Wd} : ∀ {l r : List SE} {c : List (Addr × Obj)}, Exp Z (l ++ r) c ↔ ∃ c1 c2, c = c1 ++ c2 ∧ Exp Z l c1 ∧ Exp Z r c2
  | [], r, c => ⟨fun h => ⟨[], c, rfl, rfl, h⟩, by rintro ⟨c1, c2, e1, e2, h⟩; rw [e1, show c1 = [] from e2]; exact h⟩
  | q :: l, r, c => by
    constructor
    · rintro ⟨c1, c2, e1, h1, h2⟩
      obtain ⟨c3, c4, e2, h3, h4⟩ := Exp.app.mp h2
      exact ⟨c1 ++ c3, c4, by rw [e1, e2, List.append_assoc], ⟨c1, c3, rfl, h1, h3⟩, h4⟩
    · rintro ⟨c1, c2, e1, ⟨c3, c4, e2, h3, h4⟩, h2⟩
      exact ⟨c3, c4 ++ c2, by rw [e1, e2, List.append_assoc], h3, Exp.app.mpr ⟨c4, c2, rfl, h4, h2⟩⟩
theorem Exp.perm {Z : Wd} {l l' : List SE} (p : l.Perm l') : ∀ {c : List (Addr × Obj)}, Exp Z l c → ∃ c', Exp Z l' c' ∧ c.Perm c' := by
  induction p with
  | nil => exact fun h => ⟨_, h, .refl _⟩
  | cons x _ ih =>
    rintro c ⟨c1, c2, rfl, h1, h2⟩
    obtain ⟨c3, h3, p3⟩ := ih h2
    exact ⟨c1 ++ c3, ⟨c1, c3, rfl, h1, h3⟩, p3.append_left _⟩
  | swap x y l =>
    rintro c ⟨c1, c2, rfl, h1, ⟨c3, c4, rfl, h3, h4⟩⟩
    refine ⟨c3 ++ (c1 ++ c4), ⟨c3, c1 ++ c4, rfl, h3, ⟨c1, c4, rfl, h1, h4⟩⟩, ?_⟩
    rw [← List.append_assoc, ← List.append_assoc]
    exact List.perm_append_comm.append_right _
  | trans _ _ ih1 ih2 =>
    intro c h
    obtain ⟨c1, h1, p1⟩ := ih1 h
    obtain ⟨c2, h2, p2⟩ := ih2 h1
    exact ⟨c2, h2, p1.trans p2⟩
theorem Take.perm {e : SE} {l r : List SE} (T : Take e l r) : l.Perm (e :: r) := by
  induction T with
  | head => exact .refl _
  | tail _ ih => exact (ih.cons _).trans (.swap _ _ _)
theorem Split.perm {l ex r : List SE} (S : Split l ex r) : l.Perm (ex ++ r) := by
  induction S with
  | nil => exact .refl _
  | cons t _ ih => exact t.perm.trans (ih.cons _)
theorem news_perm {h₀ h : Heap} {L : Addr} {a b : List (Addr × Obj)} (p : a.Perm b) (N : News h₀ L h a) : News h₀ L h b := fun q hq => N q (p.mem_iff.mpr hq)
theorem At.perm {Z : Wd} {f : Frm} {m : List (Str × SV)} {l l' : List SE} (p : l.Perm l') {s : Shared} : At Z f ⟨m, l⟩ s → At Z f ⟨m, l'⟩ s := by
  rintro ⟨h, tk, m', c, e, F, lm, N, X, nd⟩
  obtain ⟨c', X', p'⟩ := Exp.perm p X
  exact ⟨h, tk, m', c', e, F, lm, news_perm (p'.append_right _) N, X', (((p'.append_right _).map _).nodup_iff).mp nd⟩
/-- the rest laid aside -/
theorem At.put {Z : Wd} {f : Frm} {m : List (Str × SV)} {ex rest : List SE} {s : Shared} : At Z f ⟨m, ex ++ rest⟩ s → ∃ c2, Exp Z rest c2 ∧ At Z { f with own := c2 ++ f.own } ⟨m, ex⟩ s := by
  rintro ⟨h, tk, m', c, e, F, lm, N, X, nd⟩
  obtain ⟨c1, c2, rfl, X1, X2⟩ := Exp.app.mp X
  rw [List.append_assoc] at N nd
  exact ⟨c2, X2, h, tk, m', c1, e, F, lm, N, X1, nd⟩
theorem At.back {Z : Wd} {f : Frm} {m : List (Str × SV)} {ex rest : List SE} {s : Shared} {c2 : List (Addr × Obj)} (X2 : Exp Z rest c2) : At Z { f with own := c2 ++ f.own } ⟨m, ex⟩ s → At Z f ⟨m, ex ++ rest⟩ s := by
  rintro ⟨h, tk, m', c1, e, F, lm, N, X1, nd⟩
  refine ⟨h, tk, m', c1 ++ c2, e, F, lm, ?_, Exp.app.mpr ⟨c1, c2, rfl, X1, X2⟩, ?_⟩
  · rw [List.append_assoc]; exact N
  · rw [List.append_assoc]; exact nd
theorem Spec.use {Z : Wd} {k j : Nat} {fa : Addr} {vs : List SV} {ex rest led : List SE} {P : SV → List SE → Prop} {n : Fn} {f : Frm} {m : List (Str × SV)} {K : SV → St → Prop}
    (S : Spec Z k fa vs ex P) (O : Ok Z n f j) (hk : k ≤ j) (sp : Split led ex rest) (hK : ∀ r ex', P r ex' → K r ⟨m, ex' ++ rest⟩) : CallOk Z n f ⟨m, led⟩ (.ref fa) vs K := by
  intro vs' hv R E hR s hs
  obtain ⟨c2, X2, hs'⟩ := At.put (At.perm sp.perm hs)
  refine S n { f with own := c2 ++ f.own } m (fun r σ' => ∃ ex', σ' = ⟨m, ex'⟩ ∧ P r ex') ⟨O.B, O.X, O.T, O.fk, (O.le hk).dp, (O.le hk).un⟩ (fun r led' h => ⟨led', rfl, h⟩) vs' hv R E ?_ s hs'
  rintro v σ' ⟨ex', rfl, hp⟩ v' s' hv' hs'
  exact hR v _ (hK v ex' hp) v' s' hv' (At.back X2 hs')
/-- a state that says less -/
theorem At.drop {Z : Wd} {f : Frm} {m : List (Str × SV)} {ex rest : List SE} {s : Shared} : At Z f ⟨m, ex ++ rest⟩ s → At Z f ⟨m, ex⟩ s := by
  rintro ⟨h, tk, m', c, e, F, lm, N, X, nd⟩
  obtain ⟨c1, c2, rfl, X1, X2⟩ := Exp.app.mp X
  have sub : (c1 ++ f.own).Sublist ((c1 ++ c2) ++ f.own) := by rw [List.append_assoc]; exact (List.sublist_append_right c2 f.own).append_left c1
  exact ⟨h, tk, m', c1, e, F, lm, fun q hq => N q (sub.subset hq), X1, (sub.map _).nodup nd⟩
/-- the fields of an object -/
theorem fields_get {w : World} {x : Str} : ∀ {es : List (Str × SV)} {es' : List DictEntry}, FieldsAre w es es' → (∀ v, es.lookup x = some v → ∃ v', getL x es' = some (some v') ∧ v.is v') ∧ (es.lookup x = none → getL x es' = some none) ∧ es'.any (·.refKey) = false
  | [], es', h => by cases (show es' = [] from h); exact ⟨fun _ h => (nomatch h), fun _ => rfl, rfl⟩
  | (y, u) :: r, _, h => by
    obtain ⟨t, v', es', rfl, hv, hr⟩ := h
    obtain ⟨h1, h2, h3⟩ := fields_get (x := x) hr
    have hk : (({ hash := PyData.keyHash w.params y, key := .str y t, val := v' } : DictEntry).key.isStr x) = (y == x) := rfl
    have hf : ({ hash := PyData.keyHash w.params y, key := .str y t, val := v' } : DictEntry).refKey = false := rfl
    by_cases e : y = x
    · subst e
      refine ⟨fun v hl => ⟨v', ?_, ?_⟩, fun hl => ?_, ?_⟩
      · unfold getL; rw [List.find?_cons_of_pos (by rw [hk]; exact beq_self_eq_true y)]
      · rw [List.lookup_cons_self] at hl; cases hl; exact hv
      · rw [List.lookup_cons_self] at hl; cases hl
      · rw [List.any_cons, hf, h3]; rfl
    · have e1 : (y == x) = false := beq_eq_false_iff_ne.mpr e
      have e2 : (x == y) = false := beq_eq_false_iff_ne.mpr (Ne.symm e)
      have hg : getL x ({ hash := PyData.keyHash w.params y, key := .str y t, val := v' } :: es') = getL x es' := by
        unfold getL; rw [List.find?_cons_of_neg (by rw [hk, e1]; exact Bool.false_ne_true), List.any_cons, hf, Bool.false_or]
      refine ⟨fun v hl => ?_, fun hl => ?_, ?_⟩
      · rw [List.lookup_cons, e2] at hl; rw [hg]; exact h1 v hl
      · rw [List.lookup_cons, e2] at hl; rw [hg]; exact h2 hl
      · rw [List.any_cons, hf, h3]; rfl
noncomputable def putS (x : Str) (v : SV) : List (Str × SV) → List (Str × SV)
  | [] => [(x, v)]
  | q :: r => if q.1 == x then (x, v) :: r else q :: putS x v r
theorem fields_put {w : World} {x : Str} {v : SV} {v' : Value} {t : Tok} (hv : v.is v') : ∀ {es : List (Str × SV)} {es' : List DictEntry}, FieldsAre w es es' → FieldsAre w (putS x v es) (putL x (PyData.keyHash w.params x) (.str x t) v' es')
  | [], _, h => by rw [show _ = [] from h]; exact ⟨t, v', [], rfl, hv, rfl⟩
  | (y, u) :: r, _, h => by
    obtain ⟨ty, u', es', rfl, hu, hr⟩ := h
    have hk : (({ hash := PyData.keyHash w.params y, key := .str y ty, val := u' } : DictEntry).key.isStr x) = (y == x) := rfl
    unfold putS putL
    rw [hk]
    by_cases e : (y == x) = true
    · rw [if_pos e, if_pos e]
      have e' := eq_of_beq e
      subst e'
      exact ⟨ty, v', es', rfl, hv, hr⟩
    · rw [if_neg e, if_neg e]
      exact ⟨ty, u', _, rfl, hu, fields_put hv hr⟩
theorem fields_len {w : World} : ∀ {es : List (Str × SV)} {es' : List DictEntry}, FieldsAre w es es' → es'.length = es.length
  | [], _, h => by rw [show _ = [] from h]; rfl
  | (y, u) :: r, _, h => by
    obtain ⟨t, v', es', rfl, _, hr⟩ := h
    rw [List.length_cons, List.length_cons, fields_len hr]
theorem SV.handed {v : SV} {v' : Value} (h : v.is v') : handedIn v' = true := by
  cases v with
  | none => cases h; rfl
  | bool b => cases h; rfl
  | int i => obtain ⟨t, rfl⟩ := h; rfl
  | num => obtain ⟨i, t, rfl⟩ := h; rfl
  | str x => obtain ⟨t, rfl⟩ := h; rfl
  | ref a => cases h; rfl
theorem vsAre_ints {ns : List Int} : ∀ {vs : List Value}, VsAre (ns.map .int) vs → IntsAre vs ns := by
  induction ns with
  | nil => intro vs h; rw [show vs = [] from h]; exact .nil
  | cons n r ih => rintro vs ⟨v, r', rfl, ⟨t, rfl⟩, h⟩; exact .cons n t (ih h)
theorem vsAre_ofInts {vs : List Value} {ns : List Int} (h : IntsAre vs ns) : VsAre (ns.map .int) vs := by
  induction h with
  | nil => rfl
  | cons n t _ ih => exact ⟨_, _, rfl, ⟨t, rfl⟩, ih⟩
theorem vsAre_len : ∀ {xs : List SV} {vs : List Value}, VsAre xs vs → vs.length = xs.length
  | [], _, h => by rw [show _ = [] from h]; rfl
  | _ :: _, _, ⟨_, _, e, _, h⟩ => by rw [e, List.length_cons, List.length_cons, vsAre_len h]
theorem vsAre_get : ∀ {xs : List SV} {vs : List Value} {i : Nat} {x : SV}, VsAre xs vs → xs[i]? = some x → ∃ v, vs[i]? = some v ∧ x.is v
  | _ :: _, _, 0, _, ⟨v, r, e, hv, _⟩, hi => by rw [e]; cases hi; exact ⟨v, rfl, hv⟩
  | _ :: _, _, i + 1, _, ⟨v, r, e, _, h⟩, hi => by
    rw [e]
    obtain ⟨v', h1, h2⟩ := vsAre_get (i := i) h (by simpa using hi)
    exact ⟨v', by simpa using h1, h2⟩
theorem vsAre_app {ys : List SV} : ∀ {xs : List SV} {vs : List Value}, VsAre (xs ++ ys) vs ↔ ∃ v1 v2, vs = v1 ++ v2 ∧ VsAre xs v1 ∧ VsAre ys v2
  | [], vs => ⟨fun h => ⟨[], vs, rfl, rfl, h⟩, by rintro ⟨v1, v2, e, h1, h2⟩; rw [e, show v1 = [] from h1]; exact h2⟩
  | x :: xs, vs => by
    constructor
    · rintro ⟨v, r, rfl, hv, h⟩
      obtain ⟨v1, v2, rfl, h1, h2⟩ := vsAre_app.mp h
      exact ⟨v :: v1, v2, rfl, ⟨v, v1, rfl, hv, h1⟩, h2⟩
    · rintro ⟨v1, v2, rfl, ⟨v, r, rfl, hv, h1⟩, h2⟩
      exact ⟨v, r ++ v2, rfl, hv, vsAre_app.mpr ⟨r, v2, rfl, h1, h2⟩⟩
theorem vsAre_take : ∀ (k : Nat) {xs : List SV} {vs : List Value}, VsAre xs vs → VsAre (xs.take k) (vs.take k) ∧ VsAre (xs.drop k) (vs.drop k)
  | 0, _, _, h => ⟨rfl, h⟩
  | _ + 1, [], vs, h => by cases (show vs = [] from h); exact ⟨rfl, rfl⟩
  | k + 1, _ :: _, _, ⟨v, r, e, hv, h⟩ => by
    rw [e]
    have h1 := vsAre_take k h
    exact ⟨⟨v, _, rfl, hv, h1.1⟩, h1.2⟩
theorem mem_of_lookup {α β : Type} [BEq α] [LawfulBEq α] {x : α} {y : β} : ∀ {l : List (α × β)}, l.lookup x = some y → (x, y) ∈ l
  | (a, b) :: r, h => by
    rw [List.lookup_cons] at h
    split at h
    · rename_i e; cases h; rw [eq_of_beq e]; exact .head _
    · exact .tail _ (mem_of_lookup h)
/-- what the walk may ask of the top, in tables -/
noncomputable def attrIs (K : Frag) (C : Addr) (x : Str) : Bool := plainGet K C x && hasDictIn K C && (match findIn K (.ref C) x with | some a => noGet K a | none => false)
noncomputable def storeIs (K : Frag) (C : Addr) (x : Str) : Bool := (findIn K (.ref C) "__setattr__" == some (some (.builtin "object.__setattr__"))) && plainOver K C && hasDictIn K C && (takerIn K C x == some none)
noncomputable def attrTab : List (Addr × List Str) :=
  [(114, [Str.ofString "number", Str.ofString "advances", Str.ofString "buffer", Str.ofString "position"]),
   (182, [Str.ofString "rows"]),
   (210, [Str.ofString "most", Str.ofString "markers", Str.ofString "last"]),
   (350, [Str.ofString "room", Str.ofString "cells", Str.ofString "gap_start", Str.ofString "gap_end"]),
   (456, [Str.ofString "number", Str.ofString "name", Str.ofString "text", Str.ofString "markers", Str.ofString "point", Str.ofString "begv", Str.ofString "zv", Str.ofString "mark", Str.ofString "is_live", Str.ofString "is_read_only", Str.ofString "ticks", Str.ofString "codes_ticks", Str.ofString "saved_ticks", Str.ofString "listeners", Str.ofString "undo", Str.ofString "props", Str.ofString "overlays", Str.ofString "locals", Str.ofString "syntax", Str.ofString "file"])]
noncomputable def attrOk (C : Addr) (x : Str) : Bool := match attrTab.lookup C with
  | some l => l.contains x
  | none => false
theorem attr_all (P : Params) : (attrTab.all fun q => q.2.all fun x => attrIs (Mine.hd.heap_39 P) q.1 x && storeIs (Mine.hd.heap_39 P) q.1 x) = true := by kernel_rfl
theorem attrOk_is {P : Params} {C : Addr} {x : Str} (h : attrOk C x = true) : attrIs (Mine.hd.heap_39 P) C x = true ∧ storeIs (Mine.hd.heap_39 P) C x = true := by
  unfold attrOk at h
  split at h
  · rename_i l hl
    have h1 := List.all_eq_true.mp (attr_all P) _ (mem_of_lookup hl)
    have h2 := List.all_eq_true.mp h1 x (List.contains_iff_mem.mp h)
    exact Bool.and_eq_true_iff.mp h2
  · cases h
noncomputable def globTab : List (Str × Addr) :=
  [(Str.ofString "set_marker", 193), (Str.ofString "set_mark", 221), (Str.ofString "has_mark", 228), (Str.ofString "mark_place", 235), (Str.ofString "ring_marker", 242), (Str.ofString "push_mark", 249), (Str.ofString "pop_mark", 256), (Str.ofString "pop_to_mark", 263),
   (Str.ofString "need_writable", 465), (Str.ofString "reached", 472), (Str.ofString "tell_ahead", 479), (Str.ofString "tell_behind", 486), (Str.ofString "text_out", 493), (Str.ofString "text_in", 500), (Str.ofString "hung_out", 507), (Str.ofString "hung_in", 514), (Str.ofString "put_in", 521), (Str.ofString "insert_at", 529), (Str.ofString "delete", 536), (Str.ofString "narrow", 543), (Str.ofString "widen", 550),
   (Str.ofString "_law_draw", 557), (Str.ofString "_law_pick", 564), (Str.ofString "_law_deck", 569), (Str.ofString "_law_told", 576), (Str.ofString "_law_clipped", 583), (Str.ofString "_law_moved", 590), (Str.ofString "_law_popped", 597), (Str.ofString "_law_pushed", 604), (Str.ofString "_law_is_right", 609),
   (Str.ofString "Marker", 114), (Str.ofString "Markers", 182), (Str.ofString "MarkRing", 210), (Str.ofString "GapText", 350), (Str.ofString "Buffer", 456), (Str.ofString "LispSignal", 38)]
theorem glob_all (P : Params) : (globTab.all fun q => nsIn (Mine.hd.heap_39 P) mainGlobals q.1 == some (some (.ref q.2)) && keepIn (Mine.hd.heap_39 P) (.ref q.2)) = true := by kernel_rfl
theorem glob_is {P : Params} {x : Str} {g : Addr} (h : globTab.lookup x = some g) : nsIn (Mine.hd.heap_39 P) mainGlobals x = some (some (.ref g)) ∧ keepIn (Mine.hd.heap_39 P) (.ref g) = true := by
  have h1 := Bool.and_eq_true_iff.mp (List.all_eq_true.mp (glob_all P) _ (mem_of_lookup h))
  exact ⟨eq_of_beq h1.1, h1.2⟩
noncomputable def gintTab : List (Str × Int) := [(Str.ofString "OWN_NUMBER", 0)]
theorem gint_all (P : Params) : (gintTab.all fun q => match nsIn (Mine.hd.heap_39 P) mainGlobals q.1 with | some (some (.int i _)) => i == q.2 | _ => false) = true := by kernel_rfl
theorem gint_is {P : Params} {x : Str} {i : Int} (h : gintTab.lookup x = some i) : ∃ t, nsIn (Mine.hd.heap_39 P) mainGlobals x = some (some (.int i t)) := by
  have h1 := List.all_eq_true.mp (gint_all P) _ (mem_of_lookup h)
  dsimp only at h1
  split at h1
  · rename_i j t e; rw [e, eq_of_beq h1]; exact ⟨t, rfl⟩
  · cases h1
noncomputable def SV.isNone : SV → Bool
  | .none => true
  | _ => false
theorem isNone_is {v : SV} {v' : Value} (h : v.is v') : (v' == Value.none) = v.isNone := by
  cases v with
  | none => cases h; rfl
  | bool b => cases h; rfl
  | int i => obtain ⟨t, rfl⟩ := h; rfl
  | num => obtain ⟨i, t, rfl⟩ := h; rfl
  | str x => obtain ⟨t, rfl⟩ := h; rfl
  | ref a => cases h; rfl
theorem plainIs_none (v : Value) (h : ∀ x, v ≠ .builtin x) : plainIs v .none = true := by
  cases v <;> first | rfl | exact absurd rfl (h _)
theorem SV.noBuiltin {v : SV} {v' : Value} (h : v.is v') : ∀ x, v' ≠ .builtin x := by
  intro x e
  subst e
  cases v with
  | none => cases h
  | bool b => cases h
  | int i => obtain ⟨t, ht⟩ := h; cases ht
  | num => obtain ⟨i, t, ht⟩ := h; cases ht
  | str x => obtain ⟨t, ht⟩ := h; cases ht
  | ref a => cases h
theorem At.tok {Z : Wd} {f : Frm} {σ : St} {s : Shared} {t : Nat} (hs : At Z f σ s) : At Z f σ { s with toks := t } := by
  obtain ⟨h, tk, m, c, rfl, r⟩ := hs
  exact ⟨h, t, m, c, rfl, r⟩
noncomputable def nameOf (n : Fn) (σ : St) (x : Str) : Option SV := match n.cs.names.lookup x with
  | some .local => σ.m.lookup x
  | some .globalImplicit => match globTab.lookup x with
    | some g => some (.ref g)
    | none => (gintTab.lookup x).map .int
  | _ => none
inductive LenIs : List SE → Addr → Int → Prop
  | list {a vs r} : LenIs (.list a vs :: r) a vs.length
  | any {a N r} : LenIs (.anyL a N :: r) a N
  | tail {q r a N} : LenIs r a N → LenIs (q :: r) a N
/-- expressions that store nothing, call no def and fork nowhere -/
inductive PE (n : Fn) (σ : St) : Expr → SV → Prop
  | name {x pos v} : (x == Str.ofString "__debug__") = false → nameOf n σ x = some v → PE n σ (.Name x pos) v
  | cel {x pos c v} : n.cs.names.lookup x = some .cell → (x == Str.ofString "__debug__") = false → n.cl.lookup x = some c → .cell c v ∈ σ.led → PE n σ (.Name x pos) v
  | fre {x pos c v} : n.cs.names.lookup x = some .free → (x == Str.ofString "__debug__") = false → (x == Str.ofString "__classdict__") = false → n.cl.lookup x = some c → .cell c v ∈ σ.led → PE n σ (.Name x pos) v
  | int {i k pos} : PE n σ (.Constant (.int i) k pos) (.int i)
  | str {x k pos} : PE n σ (.Constant (.str x) k pos) (.str x)
  | bool {b k pos} : PE n σ (.Constant (.bool b) k pos) (.bool b)
  | none {k pos} : PE n σ (.Constant .none k pos) .none
  | attrN {y p x pos a C es v} : PE n σ (.Name y p) (.ref a) → .obj a C es ∈ σ.led → attrOk C x = true → es.lookup x = some v → PE n σ (.Attribute (.Name y p) x pos) v
  | attrA {o y p x pos a C es v} : PE n σ (.Attribute o y p) (.ref a) → .obj a C es ∈ σ.led → attrOk C x = true → es.lookup x = some v → PE n σ (.Attribute (.Attribute o y p) x pos) v
  | attrS {o y p x pos a C es v} : PE n σ (.Subscript o y p) (.ref a) → .obj a C es ∈ σ.led → attrOk C x = true → es.lookup x = some v → PE n σ (.Attribute (.Subscript o y p) x pos) v
  | add {l r pos a b} : PE n σ l (.int a) → PE n σ r (.int b) → PE n σ (.BinOp l .Add r pos) (.int (a + b))
  | addN {l r pos b} : PE n σ l .num → PE n σ r (.int b) → PE n σ (.BinOp l .Add r pos) .num
  | sub {l r pos a b} : PE n σ l (.int a) → PE n σ r (.int b) → PE n σ (.BinOp l .Sub r pos) (.int (a - b))
  | mul {l r pos a b} : PE n σ l (.int a) → PE n σ r (.int b) → IntMulOk a b → PE n σ (.BinOp l .Mult r pos) (.int (a * b))
  | fdiv {l r pos a b} : PE n σ l (.int a) → PE n σ r (.int b) → b ≠ 0 → Builtin.divisionGoesByPylong a b = false → PE n σ (.BinOp l .FloorDiv r pos) (.int (a.fdiv b))
  | mod {l r pos a b} : PE n σ l (.int a) → PE n σ r (.int b) → b ≠ 0 → PE n σ (.BinOp l .Mod r pos) (.int (a.fmod b))
  | len {p e pos a N} : n.cs.names.lookup (Str.ofString "len") = some .globalImplicit → PE n σ e (.ref a) → LenIs σ.led a N → N ≤ 1000000 → PE n σ (.Call (.Name (Str.ofString "len") p) [e] [] pos) (.int N)
  | isN {l k p pos v b} : PE n σ l v → v.isNone = b → PE n σ (.Compare l [.Is] [.Constant .none k p] pos) (.bool b)
  | notN {l k p pos v b} : PE n σ l v → (!v.isNone) = b → PE n σ (.Compare l [.IsNot] [.Constant .none k p] pos) (.bool b)
  | andF {l r pos} : PE n σ l (.bool false) → PE n σ (.BoolOp .And [l, r] pos) (.bool false)
  | andT {l r pos v} : PE n σ l (.bool true) → PE n σ r v → PE n σ (.BoolOp .And [l, r] pos) v
  | row {o i pos R l q a} : PE n σ o (.ref R) → .rows R l ∈ σ.led → PE n σ i (.int q) → (q, a) ∈ l → PE n σ (.Subscript o i pos) (.ref a)
  | idx {o i pos b vs q v} : PE n σ o (.ref b) → .list b vs ∈ σ.led → PE n σ i (.int q) → 0 ≤ q → q < 1000000 → vs[q.toNat]? = some v → PE n σ (.Subscript o i pos) v
  | min {p l r pos a b} : n.cs.names.lookup (Str.ofString "min") = some .globalImplicit → PE n σ l (.int a) → PE n σ r (.int b) → PE n σ (.Call (.Name (Str.ofString "min") p) [l, r] [] pos) (.int (min a b))
  | max {p l r pos a b} : n.cs.names.lookup (Str.ofString "max") = some .globalImplicit → PE n σ l (.int a) → PE n σ r (.int b) → PE n σ (.Call (.Name (Str.ofString "max") p) [l, r] [] pos) (.int (max a b))
section
variable {Z : Wd} {n : Fn} {f : Frm} {σ : St} {k : Nat}
theorem At.inst {s : Shared} {a C : Addr} {es : List (Str × SV)} (hs : At Z f σ s) (hm : .obj a C es ∈ σ.led) : ∃ m c d es' q, Fr f.h₀ f.L s.heap m ∧ News f.h₀ f.L s.heap (c ++ f.own) ∧
    InstAt s.heap a (instObj C d) C (some (dictOf es' q)) ∧ FieldsAre Z.w es es' := by
  obtain ⟨h, tk, m, c, rfl, F, lm, N, X, nd⟩ := hs
  obtain ⟨pre, c1, post, rfl, d, es', q, rfl, hf⟩ := Exp.mem hm X
  exact ⟨m, _, d, es', q, F, N, InstAt.of_news (sl := #[]) N (by simp) (by simp), hf⟩
theorem At.lst {s : Shared} {a : Addr} {vs : List SV} (hs : At Z f σ s) (hm : .list a vs ∈ σ.led) : ∃ vs' q, s.heap.get? a = some (W.listOf vs'.toArray q) ∧ VsAre vs vs' := by
  obtain ⟨h, tk, m, c, rfl, F, lm, N, X, nd⟩ := hs
  obtain ⟨pre, c1, post, rfl, vs', q, rfl, hv⟩ := Exp.mem hm X
  exact ⟨vs', q, N.get (o := W.listOf vs'.toArray q) (by simp), hv⟩
theorem At.isList {s : Shared} {a : Addr} {vs : List SV} (hs : At Z f σ s) (hm : .list a vs ∈ σ.led) : ∃ vs', s.heap.IsList a vs'.toArray ∧ VsAre vs vs' := by
  obtain ⟨vs', q, h, hv⟩ := hs.lst hm
  exact ⟨vs', ⟨_, h, rfl, q, rfl⟩, hv⟩
theorem At.isAny {s : Shared} {a : Addr} {N : Int} (hs : At Z f σ s) (hm : .anyL a N ∈ σ.led) : ∃ vs' : List Value, s.heap.IsList a vs'.toArray ∧ (vs'.length : Int) = N := by
  obtain ⟨h, tk, m, c, rfl, F, lm, N, X, nd⟩ := hs
  obtain ⟨pre, c1, post, rfl, vs', q, rfl, hv⟩ := Exp.mem hm X
  exact ⟨vs', ⟨_, News.get (o := W.listOf vs'.toArray q) N (by simp), rfl, q, rfl⟩, hv⟩
theorem At.lenIs {s : Shared} {a : Addr} {N : Int} (hs : At Z f σ s) (hm : LenIs σ.led a N) : ∃ vs' : List Value, s.heap.IsList a vs'.toArray ∧ (vs'.length : Int) = N := by
  have : (∃ vs, .list a vs ∈ σ.led ∧ (vs.length : Int) = N) ∨ .anyL a N ∈ σ.led := by
    clear hs
    revert hm
    generalize σ.led = l
    intro hm
    induction hm with
    | list => exact .inl ⟨_, .head _, rfl⟩
    | any => exact .inr (.head _)
    | tail _ ih =>
      rcases ih with ⟨vs, h, e⟩ | h
      · exact .inl ⟨vs, .tail _ h, e⟩
      · exact .inr (.tail _ h)
  rcases this with ⟨vs, h, e⟩ | h
  · obtain ⟨vs', h1, h2⟩ := hs.isList h
    exact ⟨vs', h1, by rw [vsAre_len h2]; exact e⟩
  · exact hs.isAny h
theorem getA (O : Ok Z n f k) {a C : Addr} {es : List (Str × SV)} {x : Str} {v : SV} (hm : .obj a C es ∈ σ.led) (hx : attrOk C x = true) (hv : es.lookup x = some v) {b : Bool} {R E : Value → Shared → Prop}
    (hR : ∀ v' s', v.is v' → At Z f σ s' → R v' s') {s : Shared} (hs : At Z f σ s) : wpAny Z.M (n.A f) (getAttr (.ref a) x b) R E s := by
  obtain ⟨m, c, d, es', q, F, N, I, hf⟩ := hs.inst hm
  obtain ⟨v', hg, hv'⟩ := (fields_get hf).1 v hv
  have ha := (attrOk_is (P := Z.w.params) hx).1
  unfold attrIs at ha
  simp only [Bool.and_eq_true] at ha
  obtain ⟨⟨h1, h2⟩, h3⟩ := ha
  split at h3
  · rename_i at_ hat
    exact get_own F O.X I h1 h2 hat h3 hg (SV.handed hv') (hR v' _ hv' hs.tok)
  · cases h3
theorem nameB (O : Ok Z n f k) {x : Str} {pos : Pos} {id : String} (hx : n.cs.names.lookup x = some .globalImplicit) (h1 : nsIn Z.K mainGlobals x = some none) (h2 : bootBuiltins x = some (.builtin id)) (h3 : x ≠ Str.ofString "__name__") (h4 : (x == Str.ofString "__debug__") = false)
    {R E : Value → Shared → Prop} {s : Shared} (hs : At Z f σ s) (hR : R (.builtin id) s) : wpAny Z.M (n.A f) (eval (.Name x pos) (n.env f)) R E s := by
  obtain ⟨h, tk, m, c, rfl, F, lm, N, X, nd⟩ := hs
  exact nameX_B F O.X (topRead_of O.T) h1 h2 h3 hR O.fk hx h4

noncomputable def builtTab : List String := ["len", "min", "max", "abs", "sorted"]
theorem built_all (P : Params) : (builtTab.all fun x => nsIn (Mine.hd.heap_39 P) mainGlobals (Str.ofString x) == some none && bootBuiltins (Str.ofString x) == some (.builtin x) && !(Str.ofString x == Str.ofString "__name__") && !(Str.ofString x == Str.ofString "__debug__")) = true := by kernel_rfl
theorem nameBuilt (O : Ok Z n f k) {x : String} {pos : Pos} (hx : n.cs.names.lookup (Str.ofString x) = some .globalImplicit) (hb : x ∈ builtTab)
    {R E : Value → Shared → Prop} {s : Shared} (hs : At Z f σ s) (hR : R (.builtin x) s) : wpAny Z.M (n.A f) (eval (.Name (Str.ofString x) pos) (n.env f)) R E s := by
  have h := List.all_eq_true.mp (built_all Z.w.params) x hb
  simp only [Bool.and_eq_true, Bool.not_eq_true'] at h
  obtain ⟨⟨⟨h1, h2⟩, h3⟩, h4⟩ := h
  exact nameB O hx (eq_of_beq h1) (eq_of_beq h2) (beq_eq_false_iff_ne.mp h3) h4 hs hR
theorem PE.star {e : Expr} {v : SV} (h : PE n σ e v) (rest : List Expr) (env : Env) : starEach (e :: rest) env = (false, eval e env) :: starEach rest env := by cases h <;> rfl
theorem PE.subs {e : Expr} {v : SV} (h : PE n σ e v) (o i : Value) : subscripted e false o i = operate [o, i] (getItem o i) := by cases h <;> rfl
theorem RowsL.keys {kvs l : List (Int × Value)} (R : RowsL kvs l) : (kvs.map (·.1)).Nodup := (R.perm.map _).nodup_iff.mpr R.nums
theorem RowsL.at {kvs l : List (Int × Value)} (R : RowsL kvs l) {q : Int} {v : Value} (h : (q, v) ∈ l) : valueAt kvs q = some v := by
  obtain ⟨i, hi⟩ := List.mem_iff_getElem?.mp (R.perm.mem_iff.mpr h)
  exact valueAt_of_get R.keys hi
theorem At.rows {s : Shared} {a : Addr} {l : List (Int × Addr)} (hs : At Z f σ s) (hm : .rows a l ∈ σ.led) : ∃ m c o kvs, Fr f.h₀ f.L s.heap m ∧ News f.h₀ f.L s.heap (c ++ f.own) ∧ (a, o) ∈ c ++ f.own ∧
    o.IsDictOf (PySem.intKind Z.prog Z.w) kvs ∧ RowsL kvs (l.map fun q => (q.1, Value.ref q.2)) ∧ (a == sysModules) = false := by
  obtain ⟨h, tk, m, c, rfl, F, lm, N, X, nd⟩ := hs
  obtain ⟨pre, c1, post, rfl, o, kvs, rfl, h1, h2, h3⟩ := Exp.mem hm X
  exact ⟨m, _, o, kvs, F, N, by simp, h1, h2, h3⟩
theorem PE.sound (O : Ok Z n f k) {e : Expr} {v : SV} (h : PE n σ e v) : ∀ {R E : Value → Shared → Prop}, (∀ v' s', v.is v' → At Z f σ s' → R v' s') → ∀ {s}, At Z f σ s → wpAny Z.M (n.A f) (eval e (n.env f)) R E s := by
  induction h with
  | name hd hv =>
    rintro R E hR s ⟨h, tk, m, c, rfl, F, lm, N, X, nd⟩
    unfold nameOf at hv
    split at hv
    · rename_i hx
      obtain ⟨v', hm, hv'⟩ := lm _ _ hv
      exact nameX_L F hm (hR v' _ hv' ⟨h, tk, m, c, rfl, F, lm, N, X, nd⟩) O.fk hx hd
    · rename_i hx
      split at hv
      · rename_i g hg
        cases hv
        exact nameX_K F O.X (topRead_of O.T) (glob_is hg).1 (hR (.ref g) _ rfl ⟨h, tk, m, c, rfl, F, lm, N, X, nd⟩) O.fk hx hd
      · obtain ⟨i, hg, rfl⟩ := Option.map_eq_some_iff.mp hv
        obtain ⟨t, ht⟩ := gint_is (P := Z.w.params) hg
        exact nameX_K F O.X (topRead_of O.T) ht (hR (.int i t) _ ⟨t, rfl⟩ ⟨h, tk, m, c, rfl, F, lm, N, X, nd⟩) O.fk hx hd
    · cases hv
  | cel hx hd hc hm =>
    rintro R E hR s ⟨h, tk, m, c, rfl, F, lm, N, X, nd⟩
    obtain ⟨pre, c1, post, rfl, o, v', rfl, ho, hv'⟩ := Exp.mem hm X
    exact nameX_C N hc (by simp) ho (hR v' _ hv' ⟨h, tk, m, _, rfl, F, lm, N, X, nd⟩) O.fk hx hd
  | fre hx hd hd2 hc hm =>
    rintro R E hR s ⟨h, tk, m, c, rfl, F, lm, N, X, nd⟩
    obtain ⟨pre, c1, post, rfl, o, v', rfl, ho, hv'⟩ := Exp.mem hm X
    exact nameX_F N hc (by simp) ho (hR v' _ hv' ⟨h, tk, m, _, rfl, F, lm, N, X, nd⟩) O.fk hx hd hd2
  | int => exact fun hR s hs => wpAny_Constant_int (hR _ _ ⟨_, rfl⟩ hs.tok)
  | str => exact fun hR s hs => Calls.Constant_str (hR _ _ ⟨_, rfl⟩ hs.tok)
  | bool => exact fun hR s hs => Constant_bool (hR _ _ rfl hs)
  | none => exact fun hR s hs => Constant_none (hR _ _ rfl hs)
  | attrN _ hm hx hv ih => exact fun hR s hs => Attribute_Name_ (ih (fun o s1 ho hs1 => by cases ho; exact getA O hm hx hv hR hs1) hs)
  | attrA _ hm hx hv ih => exact fun hR s hs => Attribute_any_ (ih (fun o s1 ho hs1 => by cases ho; exact getA O hm hx hv hR hs1) hs)
  | attrS _ hm hx hv ih => exact fun hR s hs => Attribute_any_ (ih (fun o s1 ho hs1 => by cases ho; exact getA O hm hx hv hR hs1) hs)
  | add _ _ ih1 ih2 =>
    refine fun hR s hs => wpAny_BinOp (ih1 (fun a s1 ha hs1 => ih2 (fun b s2 hb hs2 => ?_) hs1) hs)
    obtain ⟨t, rfl⟩ := ha
    obtain ⟨u, rfl⟩ := hb
    exact add_int (hR _ _ ⟨_, rfl⟩ hs2.tok)
  | addN _ _ ih1 ih2 =>
    refine fun hR s hs => wpAny_BinOp (ih1 (fun a s1 ha hs1 => ih2 (fun b s2 hb hs2 => ?_) hs1) hs)
    obtain ⟨i, t, rfl⟩ := ha
    obtain ⟨u, rfl⟩ := hb
    exact add_int (hR _ _ ⟨_, _, rfl⟩ hs2.tok)
  | sub _ _ ih1 ih2 =>
    refine fun hR s hs => wpAny_BinOp (ih1 (fun a s1 ha hs1 => ih2 (fun b s2 hb hs2 => ?_) hs1) hs)
    obtain ⟨t, rfl⟩ := ha
    obtain ⟨u, rfl⟩ := hb
    exact sub_int (hR _ _ ⟨_, rfl⟩ hs2.tok)
  | mul _ _ hm ih1 ih2 =>
    refine fun hR s hs => wpAny_BinOp (ih1 (fun a s1 ha hs1 => ih2 (fun b s2 hb hs2 => ?_) hs1) hs)
    obtain ⟨t, rfl⟩ := ha
    obtain ⟨u, rfl⟩ := hb
    exact mul_int (hR _ _ ⟨_, rfl⟩ hs2.tok) hm
  | fdiv _ _ h0 hp ih1 ih2 =>
    refine fun hR s hs => wpAny_BinOp (ih1 (fun a s1 ha hs1 => ih2 (fun b s2 hb hs2 => ?_) hs1) hs)
    obtain ⟨t, rfl⟩ := ha
    obtain ⟨u, rfl⟩ := hb
    exact floordiv_int h0 (hR _ _ ⟨_, rfl⟩ hs2.tok) (.inl hp)
  | mod _ _ h0 ih1 ih2 =>
    refine fun hR s hs => wpAny_BinOp (ih1 (fun a s1 ha hs1 => ih2 (fun b s2 hb hs2 => ?_) hs1) hs)
    obtain ⟨t, rfl⟩ := ha
    obtain ⟨u, rfl⟩ := hb
    exact mod_int' h0 (hR _ _ ⟨_, rfl⟩ hs2.tok)
  | len hx he hm hl ih =>
    refine fun {R E} hR s hs => Call_ (nameBuilt O hx (by decide) hs ?_)
    refine callWith_builtin1 (args_cons (ih (fun a s1 ha hs1 => args_nil ?_) hs) (he.star _ _)) (he.star _ _)
    cases ha
    obtain ⟨vs', hl', hv⟩ := hs1.lenIs hm
    refine call_len_list hl' (by rw [List.size_toArray]; omega) (hR _ _ ⟨_, by rw [List.size_toArray, hv]⟩ hs1.tok)
  | isN _ hb ih =>
    refine fun {R E} hR s hs => wpAny_Compare1 (ih (fun u s1 hu hs1 => Constant_none ?_) hs)
    exact is_none (by rw [isNone_is hu, hb]; exact hR _ _ rfl hs1)
  | notN _ hb ih =>
    refine fun {R E} hR s hs => wpAny_Compare1 (ih (fun u s1 hu hs1 => Constant_none ?_) hs)
    exact wpAny_isNot_plain (plainIs_none _ (SV.noBuiltin hu)) (by rw [isNone_is hu, hb]; exact hR _ _ rfl hs1)
  | andF _ ih =>
    refine fun {R E} hR s hs => BoolOp_and (ih (fun u s1 hu hs1 => ?_) hs)
    cases hu
    exact wpAny_truthy_bool (by rw [if_neg Bool.false_ne_true]; exact hR _ _ rfl hs1)
  | andT _ _ ih1 ih2 =>
    refine fun {R E} hR s hs => BoolOp_and (ih1 (fun u s1 hu hs1 => ?_) hs)
    cases hu
    exact wpAny_truthy_bool (by rw [if_pos rfl]; exact BoolOp_one (ih2 hR hs1))
  | row _ hm hi hl ih1 ih2 =>
    refine fun {R E} hR s hs => Subscript_ (ih1 (fun o s1 ho hs1 => ih2 (fun i s2 hi' hs2 => ?_) hs1) hs)
    cases ho
    obtain ⟨t, rfl⟩ := hi'
    obtain ⟨m, c, o, kvs, F, N, h1, h2, h3, h4⟩ := hs2.rows hm
    exact kba_turn (value' := .Name (Str.ofString "x") default) (fun _ => rfl) (kda_item N h1 h2 (intKind_is _ _ _ _) (h3.at (List.mem_map.mpr ⟨_, hl, rfl⟩)) (hR _ _ rfl hs2.tok) (hi.subs _ _) fun _ => rfl)
  | idx _ hm hi h0 h1 hg ih1 ih2 =>
    refine fun {R E} hR s hs => Subscript_ (ih1 (fun o s1 ho hs1 => ih2 (fun i s2 hi' hs2 => ?_) hs1) hs)
    cases ho
    obtain ⟨t, rfl⟩ := hi'
    obtain ⟨vs', hl, hv⟩ := hs2.isList hm
    obtain ⟨v', h3, h4⟩ := vsAre_get hv hg
    exact kba_turn (value' := .Name (Str.ofString "x") default) (fun _ => rfl) (tail_any hl.typeIs slot_list_getitem.lookup (getItem_listL hl h0 (by omega) h3 (hR _ _ h4 hs2)) (hi.subs _ _))
  | min hx he1 he2 ih1 ih2 =>
    refine fun {R E} hR s hs => Call_ (nameBuilt O hx (by decide) hs ?_)
    refine callWith_builtin1 (args_cons (ih1 (fun a s1 ha hs1 => args_cons (ih2 (fun b s2 hb hs2 => args_nil ?_) hs1) (he2.star _ _)) hs) (he1.star _ _)) (he1.star _ _) (by rw [he2.star]; rfl)
    obtain ⟨t, rfl⟩ := ha
    obtain ⟨u, rfl⟩ := hb
    obtain ⟨h, tk, m, c, rfl, F, lm, N, X, nd⟩ := hs2
    exact min_two_N rfl F N fun h' tk' F' N' => hR _ _ (by refine ⟨_, congrArg (Value.int · _) ?_⟩; omega) ⟨h', tk', m, c, rfl, F', lm, N', X, nd⟩
  | max hx he1 he2 ih1 ih2 =>
    refine fun {R E} hR s hs => Call_ (nameBuilt O hx (by decide) hs ?_)
    refine callWith_builtin1 (args_cons (ih1 (fun a s1 ha hs1 => args_cons (ih2 (fun b s2 hb hs2 => args_nil ?_) hs1) (he2.star _ _)) hs) (he1.star _ _)) (he1.star _ _) (by rw [he2.star]; rfl)
    obtain ⟨t, rfl⟩ := ha
    obtain ⟨u, rfl⟩ := hb
    obtain ⟨h, tk, m, c, rfl, F, lm, N, X, nd⟩ := hs2
    exact max_two_N rfl F N fun h' tk' F' N' => hR _ _ (by refine ⟨_, congrArg (Value.int · _) ?_⟩; omega) ⟨h', tk', m, c, rfl, F', lm, N', X, nd⟩
end
/-- tests that store nothing and fork nowhere -/
inductive TE (n : Fn) (σ : St) : Expr → Bool → Prop
  | lt {l r pos a b} : PE n σ l (.int a) → PE n σ r (.int b) → TE n σ (.Compare l [.Lt] [r] pos) (decide (a < b))
  | le {l r pos a b} : PE n σ l (.int a) → PE n σ r (.int b) → TE n σ (.Compare l [.LtE] [r] pos) (decide (a ≤ b))
  | gt {l r pos a b} : PE n σ l (.int a) → PE n σ r (.int b) → TE n σ (.Compare l [.Gt] [r] pos) (decide (b < a))
  | ge {l r pos a b} : PE n σ l (.int a) → PE n σ r (.int b) → TE n σ (.Compare l [.GtE] [r] pos) (decide (b ≤ a))
  | eq {l r pos a b} : PE n σ l (.int a) → PE n σ r (.int b) → TE n σ (.Compare l [.Eq] [r] pos) (a == b)
  | eqS {l r pos a b} : PE n σ l (.str a) → PE n σ r (.str b) → TE n σ (.Compare l [.Eq] [r] pos) (a == b)
  | isN {l k p pos v b} : PE n σ l v → v.isNone = b → TE n σ (.Compare l [.Is] [.Constant .none k p] pos) b
  | notN {l k p pos v b} : PE n σ l v → (!v.isNone) = b → TE n σ (.Compare l [.IsNot] [.Constant .none k p] pos) b
  | notNV {l r pos a} : PE n σ l (.ref a) → PE n σ r .none → TE n σ (.Compare l [.IsNot] [r] pos) true
  | same {l r pos a} : PE n σ l (.ref a) → PE n σ r (.ref a) → TE n σ (.Compare l [.IsNot] [r] pos) false
  | inR {i o pos R l q a} : PE n σ i (.int q) → PE n σ o (.ref R) → .rows R l ∈ σ.led → (q, a) ∈ l → TE n σ (.Compare i [.In] [o] pos) true
  | name {x p b} : PE n σ (.Name x p) (.bool b) → TE n σ (.Name x p) b
  | attr {o x p b} : PE n σ (.Attribute o x p) (.bool b) → TE n σ (.Attribute o x p) b
  | not {e p b} : TE n σ e b → TE n σ (.UnaryOp .Not e p) (!b)
  | andF {l r p} : TE n σ l false → TE n σ (.BoolOp .And [l, r] p) false
  | andT {l r p b} : TE n σ l true → TE n σ r b → TE n σ (.BoolOp .And [l, r] p) b
  | and {l r p a b} : TE n σ l a → TE n σ r b → TE n σ (.BoolOp .And [l, r] p) (a && b)
  | orT {l r p} : TE n σ l true → TE n σ (.BoolOp .Or [l, r] p) true
  | orF {l r p b} : TE n σ l false → TE n σ r b → TE n σ (.BoolOp .Or [l, r] p) b
  | or {l r p a b} : TE n σ l a → TE n σ r b → TE n σ (.BoolOp .Or [l, r] p) (a || b)
section
variable {Z : Wd} {n : Fn} {f : Frm} {σ : St} {k : Nat}
theorem TE.sound (O : Ok Z n f k) {e : Expr} {b : Bool} (h : TE n σ e b) : ∀ {R : Bool → Shared → Prop} {E : Value → Shared → Prop} {whole : Sem Value}, whole = eval e (n.env f) → (∀ s', At Z f σ s' → R b s') → ∀ {s}, At Z f σ s → wpAny Z.M (n.A f) (PySem.isTrue e (n.env f) whole) R E s := by
  have cmp : ∀ {l r : Expr} {op : CmpOp} {pos : Pos} {u v : SV} {c : Bool} {whole : Sem Value} {R : Bool → Shared → Prop} {E : Value → Shared → Prop}, PE n σ l u → PE n σ r v →
      (∀ (u' v' : Value) (Q : Value → Shared → Prop) (s' : Shared), u.is u' → v.is v' → At Z f σ s' → (∀ s'', At Z f σ s'' → Q (.bool c) s'') → wpAny Z.M (n.A f) (compareOp op u' v') Q E s') →
      (∀ s', At Z f σ s' → R c s') → ∀ {s}, At Z f σ s → wpAny Z.M (n.A f) (PySem.isTrue (.Compare l [op] [r] pos) (n.env f) whole) R E s := by
    intro l r op pos u v c whole R E hl hr hc hR s hs
    exact wpAny_isTrue_Compare1 (hl.sound O (fun u' s1 hu hs1 => hr.sound O (fun v' s2 hv hs2 => hc u' v' _ s2 hu hv hs2 fun s3 hs3 => wpAny_truthy_bool (hR _ hs3)) hs1) hs) (by cases hr <;> cases op <;> rfl)
  induction h with
  | lt h1 h2 => exact fun {R E whole} _ hR s hs => cmp h1 h2 (fun u' v' Q s' hu hv hs' hq => by obtain ⟨_, rfl⟩ := hu; obtain ⟨_, rfl⟩ := hv; exact lt_int (hq _ hs')) hR hs
  | le h1 h2 => exact fun {R E whole} _ hR s hs => cmp h1 h2 (fun u' v' Q s' hu hv hs' hq => by obtain ⟨_, rfl⟩ := hu; obtain ⟨_, rfl⟩ := hv; exact le_int (hq _ hs')) hR hs
  | gt h1 h2 => exact fun {R E whole} _ hR s hs => cmp h1 h2 (fun u' v' Q s' hu hv hs' hq => by obtain ⟨_, rfl⟩ := hu; obtain ⟨_, rfl⟩ := hv; exact gt_int (hq _ hs')) hR hs
  | ge h1 h2 => exact fun {R E whole} _ hR s hs => cmp h1 h2 (fun u' v' Q s' hu hv hs' hq => by obtain ⟨_, rfl⟩ := hu; obtain ⟨_, rfl⟩ := hv; exact ge_int (hq _ hs')) hR hs
  | eq h1 h2 => exact fun {R E whole} _ hR s hs => cmp h1 h2 (fun u' v' Q s' hu hv hs' hq => by obtain ⟨_, rfl⟩ := hu; obtain ⟨_, rfl⟩ := hv; exact eq_int (hq _ hs')) hR hs
  | eqS h1 h2 => exact fun {R E whole} _ hR s hs => cmp h1 h2 (fun u' v' Q s' hu hv hs' hq => by obtain ⟨_, rfl⟩ := hu; obtain ⟨_, rfl⟩ := hv; exact eq_str (hq _ hs')) hR hs
  | isN h1 hb => exact fun {R E whole} _ hR s hs => cmp h1 .none (fun u' v' Q s' hu hv hs' hq => by cases hv; exact is_none (by rw [isNone_is hu, hb]; exact hq _ hs')) hR hs
  | notN h1 hb => exact fun {R E whole} _ hR s hs => cmp h1 .none (fun u' v' Q s' hu hv hs' hq => by cases hv; exact wpAny_isNot_plain (plainIs_none _ (SV.noBuiltin hu)) (by rw [isNone_is hu, hb]; exact hq _ hs')) hR hs
  | notNV h1 h2 => exact fun {R E whole} _ hR s hs => cmp h1 h2 (fun u' v' Q s' hu hv hs' hq => by cases hu; cases hv; exact wpAny_isNot_plain rfl (hq _ hs')) hR hs
  | same h1 h2 => exact fun {R E whole} _ hR s hs => cmp h1 h2 (fun u' v' Q s' hu hv hs' hq => by cases hu; cases hv; exact wpAny_isNot_ref_self (hq _ hs')) hR hs
  | inR h1 h2 hm hl =>
    refine fun {R E whole} _ hR s hs => cmp h1 h2 (fun u' v' Q s' hu hv hs' hq => ?_) hR hs
    obtain ⟨t, rfl⟩ := hu
    cases hv
    obtain ⟨m, c, o, kvs, F, N, g1, g2, g3, g4⟩ := hs'.rows hm
    exact kda_in N g1 g2 g4 (intKind_is _ _ _ _) true (by rw [g3.at (List.mem_map.mpr ⟨_, hl, rfl⟩)]; rfl) (hq _ hs'.tok)
  | name h1 =>
    intro R E whole hw hR s hs
    subst hw
    exact isTrue_plain (h1.sound O (fun v s1 hv hs1 => by cases hv; exact wpAny_truthy_bool (hR _ hs1)) hs)
  | attr h1 =>
    intro R E whole hw hR s hs
    subst hw
    exact isTrue_plain (h1.sound O (fun v s1 hv hs1 => by cases hv; exact wpAny_truthy_bool (hR _ hs1)) hs)
  | not _ ih => exact fun {R E whole} _ hR s hs => wpAny_isTrue_Not (ih rfl (fun s' hs' => hR s' hs') hs)
  | andF _ ih => exact fun {R E whole} _ hR s hs => isTrue_and (ih rfl (fun s' hs' => by rw [if_neg Bool.false_ne_true]; exact hR _ hs') hs)
  | @andT l r p b _ _ ih1 ih2 =>
    refine fun {R E whole} _ hR s hs => isTrue_and (ih1 rfl (fun s' hs' => ?_) hs)
    rw [if_pos rfl]
    refine isTrue_and (ih2 rfl (fun s2 hs2 => ?_) hs')
    cases b
    · rw [if_neg Bool.false_ne_true]; exact hR _ hs2
    · rw [if_pos rfl]; exact isTrue_and_nil (hR _ hs2)
  | @and l r p a b _ _ ih1 ih2 =>
    refine fun {R E whole} _ hR s hs => isTrue_and (ih1 rfl (fun s' hs' => ?_) hs)
    cases a
    · rw [if_neg Bool.false_ne_true]; exact hR _ hs'
    · rw [if_pos rfl]
      refine isTrue_and (ih2 rfl (fun s2 hs2 => ?_) hs')
      cases b
      · rw [if_neg Bool.false_ne_true]; exact hR _ hs2
      · rw [if_pos rfl]; exact isTrue_and_nil (hR _ hs2)
  | orT _ ih => exact fun {R E whole} _ hR s hs => isTrue_or (ih rfl (fun s' hs' => by rw [if_pos rfl]; exact hR _ hs') hs)
  | @orF l r p b _ _ ih1 ih2 =>
    refine fun {R E whole} _ hR s hs => isTrue_or (ih1 rfl (fun s' hs' => ?_) hs)
    rw [if_neg Bool.false_ne_true]
    refine isTrue_or (ih2 rfl (fun s2 hs2 => ?_) hs')
    cases b
    · rw [if_neg Bool.false_ne_true]; exact isTrue_or_nil (hR _ hs2)
    · rw [if_pos rfl]; exact hR _ hs2
  | @or l r p a b _ _ ih1 ih2 =>
    refine fun {R E whole} _ hR s hs => isTrue_or (ih1 rfl (fun s' hs' => ?_) hs)
    cases a
    · rw [if_neg Bool.false_ne_true]
      refine isTrue_or (ih2 rfl (fun s2 hs2 => ?_) hs')
      cases b
      · rw [if_neg Bool.false_ne_true]; exact isTrue_or_nil (hR _ hs2)
      · rw [if_pos rfl]; exact hR _ hs2
    · rw [if_pos rfl]; exact hR _ hs'
end
theorem upd_of {d : Addr} {o : Obj} {pre post : List (Addr × Obj)} (h : ((pre ++ (d, o) :: post).map (·.1)).Nodup) : (∀ p ∈ pre, p.1 ≠ d) ∧ ∀ p ∈ post, p.1 ≠ d := by
  rw [List.map_append, List.map_cons] at h
  have h' := List.nodup_append.mp h
  exact ⟨fun p hp => h'.2.2 _ (List.mem_map.mpr ⟨p, hp, rfl⟩) _ (.head _), fun p hp e => (List.nodup_cons.mp h'.2.1).1 (e ▸ List.mem_map.mpr ⟨p, hp, rfl⟩)⟩
theorem updF_mk {d : Addr} {o : Obj} {post : List (Addr × Obj)} : ∀ {pre : List (Addr × Obj)}, (∀ p ∈ pre, p.1 ≠ d) → (∀ p ∈ post, p.1 ≠ d) → UpdF d o (pre ++ (d, o) :: post) fun o' => pre ++ (d, o') :: post
  | [], _, h => .head h
  | _ :: _, h1, h => .tail (h1 _ (.head _)) (updF_mk (fun p hp => h1 p (.tail _ hp)) h)
theorem upd_mk {d : Addr} {o o' : Obj} {post : List (Addr × Obj)} : ∀ {pre : List (Addr × Obj)}, (∀ p ∈ pre, p.1 ≠ d) → (∀ p ∈ post, p.1 ≠ d) → Upd d o o' (pre ++ (d, o) :: post) (pre ++ (d, o') :: post)
  | [], _, h => .head h
  | _ :: _, h1, h => .tail (h1 _ (.head _)) (upd_mk (fun p hp => h1 p (.tail _ hp)) h)
theorem nodup_set {d : Addr} {o o' : Obj} {pre post : List (Addr × Obj)} (h : ((pre ++ (d, o) :: post).map (·.1)).Nodup) : ((pre ++ (d, o') :: post).map (·.1)).Nodup := by
  rw [List.map_append, List.map_cons] at h ⊢; exact h
section
variable {Z : Wd} {n : Fn} {f : Frm} {σ : St} {k : Nat} {e o : Expr} {x : Str} {p pos : Pos} {rest : List Stmt} {v : SV} {a C : Addr} {es : List (Str × SV)}
theorem ev_pe {K : SV → St → Prop} (O : Ok Z n f k) (h : PE n σ e v) (hK : K v σ) : EvOk Z n f σ e K := fun _ _ hR _ hs => h.sound O (fun v' s' hv hs' => hR v σ hK v' s' hv hs') hs
theorem ex_nil {K : Fl → St → Prop} (hK : K .next σ) : ExOk Z n f σ [] K := fun _ _ hR _ hs => wpAny_execs_nil (hR .next σ hK _ _ rfl hs)
def Seq (Z : Wd) (n : Fn) (f : Frm) (rest : List Stmt) (K : Fl → St → Prop) : Fl → St → Prop := fun fl σ1 => match fl with
  | .next => ExOk Z n f σ1 rest K
  | fl => K fl σ1
theorem Seq.out {R : Flow → Shared → Prop} {E : Value → Shared → Prop} {K : Fl → St → Prop} (hR : ∀ v σ', K v σ' → ∀ v' s', Fl.is v v' → At Z f σ' s' → R v' s') :
    ∀ fl σ1, Seq Z n f rest K fl σ1 → ∀ fl' s', Fl.is fl fl' → At Z f σ1 s' → (match fl' with | .next => wpAny Z.M (n.A f) (execs rest (n.env f)) R E s' | fl' => R fl' s') := by
  intro fl σ1 hk fl' s' hf hs'
  cases fl with
  | next => cases hf; exact hk R E hR s' hs'
  | brk => cases hf; exact hR _ _ hk _ _ rfl hs'
  | cont => cases hf; exact hR _ _ hk _ _ rfl hs'
  | ret v => obtain ⟨v', rfl, hv⟩ := hf; exact hR _ _ hk _ _ ⟨v', rfl, hv⟩ hs'
theorem ex_step {st : Stmt} {K : Fl → St → Prop} (h : EvF Z n f σ (exec st (n.env f)) (Seq Z n f rest K)) : ExOk Z n f σ (st :: rest) K :=
  fun _ E hR s hs => wpAny_execs_cons (h _ E (Seq.out hR) s hs)
theorem ex_nilS {K : Fl → St → Prop} (h : ExOk Z n f σ rest K) : ExOk Z n f σ [] (Seq Z n f rest K) := ex_nil h
theorem ex_if {t : Expr} {A B : List Stmt} {b : Bool} {K : Fl → St → Prop} (O : Ok Z n f k) (h : TE n σ t b) (h1 : b = true → ExOk Z n f σ A (Seq Z n f rest K)) (h2 : b = false → ExOk Z n f σ B (Seq Z n f rest K)) : ExOk Z n f σ (.If t A B pos :: rest) K := by
  refine ex_step fun R E hR s hs => wpAny_If (h.sound O rfl (fun s' hs' => ?_) hs)
  cases b with
  | true => rw [if_pos rfl]; exact h1 rfl R E hR s' hs'
  | false => rw [if_neg Bool.false_ne_true]; exact h2 rfl R E hR s' hs'
theorem ex_ifT {t : Expr} {A B : List Stmt} {K : Fl → St → Prop} (O : Ok Z n f k) (h : TE n σ t true) (h1 : ExOk Z n f σ A (Seq Z n f rest K)) : ExOk Z n f σ (.If t A B pos :: rest) K := ex_if O h (fun _ => h1) fun h => nomatch h
theorem ex_ifF {t : Expr} {A B : List Stmt} {K : Fl → St → Prop} (O : Ok Z n f k) (h : TE n σ t false) (h1 : ExOk Z n f σ B (Seq Z n f rest K)) : ExOk Z n f σ (.If t A B pos :: rest) K := ex_if O h (fun h => nomatch h) fun _ => h1
theorem ex_ifd {t : Expr} {A B : List Stmt} {q : Prop} [Decidable q] {K : Fl → St → Prop} (O : Ok Z n f k) (h : TE n σ t (decide q)) (h1 : q → ExOk Z n f σ A (Seq Z n f rest K)) (h2 : ¬ q → ExOk Z n f σ B (Seq Z n f rest K)) : ExOk Z n f σ (.If t A B pos :: rest) K :=
  ex_if O h (fun e => h1 (of_decide_eq_true e)) fun e => h2 (of_decide_eq_false e)
theorem ex_expr {K : Fl → St → Prop} (h : EvOk Z n f σ e fun _ σ1 => ExOk Z n f σ1 rest K) (hi : interactive (n.env f) = false := by rfl) (hs : swapsWith e none pos.line (n.env f) = pure false := by rfl) : ExOk Z n f σ (.Expr e pos :: rest) K :=
  ex_step fun _ E hR s hs' => wpAny_Expr_any (h _ E (fun _ σ1 hk _ _ _ hs1 => hR .next σ1 hk _ _ rfl hs1) s hs') hi hs
theorem ex_ret {K : Fl → St → Prop} (h : EvOk Z n f σ e fun v σ1 => K (.ret v) σ1) : ExOk Z n f σ (.Return (some e) pos :: rest) K :=
  ex_step fun _ E hR s hs => wpAny_Return_some (h _ E (fun v σ1 hk v' _ hv hs1 => hR (.ret v) σ1 hk _ _ ⟨v', rfl, hv⟩ hs1) s hs)
/-- a target takes a value -/
def AsOk (Z : Wd) (n : Fn) (f : Frm) (σ : St) (t : Expr) (v : SV) (K : St → Prop) : Prop := ∀ v', v.is v' → EvU Z n f σ (assign t (n.env f) v') fun _ σ' => K σ'
theorem ex_assign {t : Expr} {K : Fl → St → Prop} (h : EvOk Z n f σ e fun v σ1 => AsOk Z n f σ1 t v fun σ2 => ExOk Z n f σ2 rest K) (ht : (assignEach [t] (n.env f)).map (·.2) = [assign t (n.env f)] := by rfl)
    (hs : swapsWithSole [t] e pos.line (n.env f) = pure false := by rfl) (hw : swappedStores [t] e (n.env f) = pure none := by rfl) : ExOk Z n f σ (.Assign [t] e pos :: rest) K := by
  refine ex_step fun R E hR s hs' => wpAny_Assign_stores (h _ E (fun v σ1 hk v' s' hv hs1 => ?_) s hs') hs hw
  rw [ht]
  exact hk v' hv (fun _ => R .next) E (fun _ σ2 hk2 _ s2 _ hs2 => hR .next σ2 hk2 _ _ rfl hs2) s' hs1
theorem locIs_cons {m : List (Str × SV)} {m' : Str → Option Value} {v' : Value} (lm : LocIs m m') (hv : v.is v') : LocIs ((x, v) :: m) fun y => if y = x then some v' else m' y := by
  intro y u hu
  rw [List.lookup_cons] at hu
  by_cases e : y = x
  · subst e; rw [beq_self_eq_true] at hu; cases hu; exact ⟨v', if_pos rfl, hv⟩
  · rw [beq_eq_false_iff_ne.mpr e] at hu
    obtain ⟨u', h1, h2⟩ := lm y u hu
    exact ⟨u', (if_neg e).trans h1, h2⟩
theorem as_loc {K : St → Prop} (O : Ok Z n f k) (hx : n.cs.names.lookup x = some .local) (hK : K ⟨(x, v) :: σ.m, σ.led⟩) : AsOk Z n f σ (.Name x p) v K := by
  rintro v' hv R E hR s ⟨h, tk, m, c, rfl, F, lm, N, X, nd⟩
  exact assign_Name (storeX_L F N (fun h' F' N' => hR () _ hK _ _ rfl ⟨h', _, _, c, rfl, F', locIs_cons lm hv, N', X, nd⟩) O.fk hx)
theorem as_cell {K : St → Prop} {c : Addr} {u : SV} {led' : List SE} (O : Ok Z n f k) (hx : n.cs.names.lookup x = some .cell) (hc : n.cl.lookup x = some c) (U : UpdE (.cell c u) (.cell c v) σ.led led') (hK : K ⟨σ.m, led'⟩) : AsOk Z n f σ (.Name x p) v K := by
  rintro v' hv R E hR s ⟨h, tk, m, c, rfl, F, lm, N, X, nd⟩
  obtain ⟨pre, c1, post, rfl, ⟨o, u', rfl, ho, hu⟩, hX⟩ := U.exp X
  simp only [List.append_assoc, List.cons_append, List.nil_append] at N nd hX
  have hd := upd_of nd
  exact assign_Name (storeX_C F N hc (updF_mk hd.1 hd.2) ho (fun h' o' F' N' ho' => hR () _ hK _ _ rfl ⟨h', _, m, _, rfl, F', lm, by simp only [List.append_assoc, List.cons_append]; exact N', hX _ ⟨o', v', rfl, ho', hv⟩, by simp only [List.append_assoc, List.cons_append]; exact nodup_set nd⟩) O.fk hx)
theorem putL_len (x : Str) (h : Int) (u v : Value) : ∀ es : List DictEntry, (putL x h u v es).length ≤ es.length + 1
  | [] => Nat.le_refl _
  | q :: r => by
    unfold putL
    split
    · exact Nat.le_succ _
    · exact Nat.succ_le_succ (putL_len x h u v r)
theorem as_attr {K : St → Prop} {led' : List SE} (O : Ok Z n f k) (ho : PE n σ o (.ref a)) (U : UpdE (.obj a C es) (.obj a C (putS x v es)) σ.led led') (hx : attrOk C x = true) (hK : K ⟨σ.m, led'⟩) (hl : es.length ≤ 100 := by exact Nat.le_of_ble_eq_true rfl) : AsOk Z n f σ (.Attribute o x p) v K := by
  refine fun v' hv R E hR s hs => kas_attr (ho.sound O (fun o' s1 hao hs1 => ?_) hs)
  cases hao
  obtain ⟨h, tk, m, c, rfl, F, lm, N, X, nd⟩ := hs1
  obtain ⟨pre, c1, post, rfl, ⟨d, es', q, rfl, hf⟩, hX⟩ := U.exp X
  simp only [List.append_assoc, List.cons_append, List.nil_append] at N nd hX
  have nd' : ((pre ++ [(a, instObj C d)] ++ (d, dictOf es' q) :: (post ++ f.own)).map (·.1)).Nodup := by simp only [List.append_assoc, List.cons_append, List.nil_append]; exact nd
  have N' : News f.h₀ f.L h (pre ++ [(a, instObj C d)] ++ (d, dictOf es' q) :: (post ++ f.own)) := by simp only [List.append_assoc, List.cons_append, List.nil_append]; exact N
  have hd := upd_of nd'
  obtain ⟨ha, hs⟩ := attrOk_is (P := Z.w.params) hx
  unfold storeIs at hs
  simp only [Bool.and_eq_true] at hs
  obtain ⟨⟨⟨h1, h2⟩, h3⟩, h4⟩ := hs
  have hg : (getL x es').isSome = true := by
    obtain ⟨g1, g2, g3⟩ := fields_get (x := x) hf
    cases q : es.lookup x with
    | none => rw [g2 q]; rfl
    | some u => obtain ⟨u', e, _⟩ := g1 u q; rw [e]; rfl
  refine set_dict F O.X N' (InstAt.of_news (sl := #[]) N' (by simp) (by simp)) rfl (eq_of_beq h1) h2 (eq_of_beq h4) h3 hg rfl (upd_mk hd.1 hd.2) (Nat.le_trans (putL_len _ _ _ _ _) (by have := fields_len hf; omega)) fun h' F' N2 => ?_
  refine hR () _ hK _ _ rfl ⟨h', _, m, pre ++ [(a, instObj C d), (d, dictOf (putL x (PyData.keyHash Z.w.params x) (.str x (tk + 1)) v' es') (putN x es' q))] ++ post, rfl, F', lm, ?_, ?_, ?_⟩
  · simp only [List.append_assoc, List.cons_append, List.nil_append] at N2 ⊢; exact N2
  · have := hX [(a, instObj C d), (d, dictOf (putL x (PyData.keyHash Z.w.params x) (.str x (tk + 1)) v' es') (putN x es' q))] ⟨d, _, _, rfl, fields_put hv hf⟩
    simp only [List.append_assoc, List.cons_append, List.nil_append] at this ⊢; exact this
  · have := nodup_set (o' := dictOf (putL x (PyData.keyHash Z.w.params x) (.str x (tk + 1)) v' es') (putN x es' q)) nd'
    simp only [List.append_assoc, List.cons_append, List.nil_append] at this ⊢; exact this
end
noncomputable def fdOf (K : Frag) (fa : Addr) : Option FuncData := match K.lookup fa with
  | some ⟨_, _, .func fd, _⟩ => some fd
  | _ => none
theorem fdOf_is {K : Frag} {fa : Addr} {fd : FuncData} (h : fdOf K fa = some fd) : ∃ o, K.lookup fa = some o ∧ o.data = .func fd := by
  unfold fdOf at h
  split at h
  · rename_i q; cases h; exact ⟨_, q, rfl⟩
  · cases h
noncomputable abbrev nOf (fd : FuncData) (fa : Addr) : Fn := ⟨fd.qualname, fd.scope, fa, fd.code, []⟩
noncomputable def fnGood (K : Frag) (fa : Addr) (xs : List Str) : Bool := match fdOf K fa with
  | some fd => fd.globals == mainGlobals && fd.builtins == builtinsNs && fd.closure.isEmpty && xs.all (fun x => decide (fd.scope.names.lookup x = some .local)) && fd.scope.names.all (fun q => decide (q.2 ≠ .cell)) && fd.scope.isCoroutine == false && fd.scope.isGenerator == false && decide (fd.scope.kind = .function) && codeIn K fd.code fd.qualname
  | none => false
noncomputable def fnTab : List (Addr × List Str) :=
  [(35, [Str.ofString "self", Str.ofString "symbol", Str.ofString "data"]), (90, [Str.ofString "self", Str.ofString "number", Str.ofString "advances"]), (130, [Str.ofString "self"]), (137, [Str.ofString "self"]), (144, [Str.ofString "self", Str.ofString "marker", Str.ofString "position"]), (151, [Str.ofString "self", Str.ofString "marker"]),
   (165, [Str.ofString "self", Str.ofString "start", Str.ofString "end", Str.ofString "is_before"]), (172, [Str.ofString "self", Str.ofString "start", Str.ofString "end"]), (193, [Str.ofString "marker", Str.ofString "buffer", Str.ofString "place"]), (207, [Str.ofString "self", Str.ofString "most"]),
   (221, [Str.ofString "buffer", Str.ofString "place"]), (228, [Str.ofString "buffer"]), (235, [Str.ofString "buffer"]), (242, [Str.ofString "ring", Str.ofString "buffer", Str.ofString "place"]), (249, [Str.ofString "ring", Str.ofString "buffer", Str.ofString "place"]), (256, [Str.ofString "ring", Str.ofString "buffer"]), (263, [Str.ofString "ring", Str.ofString "buffer"]),
   (277, [Str.ofString "self", Str.ofString "codes", Str.ofString "room"]), (284, [Str.ofString "self"]), (298, [Str.ofString "self", Str.ofString "start", Str.ofString "end"]), (305, [Str.ofString "self", Str.ofString "at"]), (312, [Str.ofString "self", Str.ofString "wanted"]), (319, [Str.ofString "self", Str.ofString "at", Str.ofString "codes"]), (326, [Str.ofString "self", Str.ofString "start", Str.ofString "end"]),
   (369, [Str.ofString "self", Str.ofString "number", Str.ofString "name", Str.ofString "room"]), (404, [Str.ofString "self"]), (425, [Str.ofString "self", Str.ofString "place"]), (453, [Str.ofString "self", Str.ofString "are_codes"]),
   (465, [Str.ofString "buffer"]), (472, [Str.ofString "buffer", Str.ofString "start", Str.ofString "end"]), (479, [Str.ofString "buffer", Str.ofString "start", Str.ofString "end"]), (486, [Str.ofString "buffer", Str.ofString "start", Str.ofString "end", Str.ofString "old_length"]), (493, [Str.ofString "buffer", Str.ofString "start", Str.ofString "end"]), (500, [Str.ofString "buffer", Str.ofString "place", Str.ofString "codes"]),
   (507, [Str.ofString "buffer", Str.ofString "start", Str.ofString "end"]), (514, [Str.ofString "buffer", Str.ofString "place", Str.ofString "many", Str.ofString "before_markers"]), (521, [Str.ofString "buffer", Str.ofString "place", Str.ofString "codes", Str.ofString "before_markers", Str.ofString "is_point_behind"]), (529, [Str.ofString "buffer", Str.ofString "place", Str.ofString "codes", Str.ofString "before_markers"]), (536, [Str.ofString "buffer", Str.ofString "start", Str.ofString "end"]),
   (543, [Str.ofString "buffer", Str.ofString "start", Str.ofString "end"]), (550, [Str.ofString "buffer"]), (557, [Str.ofString "deck", Str.ofString "many"]), (564, [Str.ofString "deck", Str.ofString "items"]), (569, [Str.ofString "script", Str.ofString "most"]), (576, [Str.ofString "ask"]), (583, [Str.ofString "place", Str.ofString "size"]), (590, [Str.ofString "place", Str.ofString "start", Str.ofString "end", Str.ofString "many"]),
   (597, [Str.ofString "model", Str.ofString "most"]), (604, [Str.ofString "model", Str.ofString "most", Str.ofString "place"])]
theorem fn_all (P : Params) : (fnTab.all fun q => fnGood (Mine.hd.heap_39 P) q.1 q.2) = true := by kernel_rfl
theorem fn_is {P : Params} {fa : Addr} {xs : List Str} (h : fnTab.lookup fa = some xs) : fnGood (Mine.hd.heap_39 P) fa xs = true := List.all_eq_true.mp (fn_all P) _ (mem_of_lookup h)
def BindOk (fd : FuncData) : List Str → Prop
  | [a] => ∀ v, bindArgs fd ⟨[v], []⟩ = pure [(a, v)]
  | [a, b] => ∀ v u, bindArgs fd ⟨[v, u], []⟩ = pure [(a, v), (b, u)]
  | [a, b, c] => ∀ v u t, bindArgs fd ⟨[v, u, t], []⟩ = pure [(a, v), (b, u), (c, t)]
  | [a, b, c, d] => ∀ v u t w, bindArgs fd ⟨[v, u, t, w], []⟩ = pure [(a, v), (b, u), (c, t), (d, w)]
  | [a, b, c, d, e] => ∀ v u t w x, bindArgs fd ⟨[v, u, t, w, x], []⟩ = pure [(a, v), (b, u), (c, t), (d, w), (e, x)]
  | _ => False
theorem BindOk.zip {fd : FuncData} : ∀ {xs : List Str} {vs : List Value}, BindOk fd xs → vs.length = xs.length → bindArgs fd ⟨vs, []⟩ = pure (xs.zip vs)
  | [_], [_], h, _ => h _
  | [_, _], [_, _], h, _ => h _ _
  | [_, _, _], [_, _, _], h, _ => h _ _ _
  | [_, _, _, _], [_, _, _, _], h, _ => h _ _ _ _
  | [_, _, _, _, _], [_, _, _, _, _], h, _ => h _ _ _ _ _
theorem zip_lookup {x : Str} {v : SV} : ∀ {xs : List Str} {vs : List SV} {vs' : List Value}, VsAre vs vs' → (xs.zip vs).lookup x = some v → ∃ v', (xs.zip vs').lookup x = some v' ∧ v.is v'
  | y :: xs, u :: vs, _, ⟨u', r, e, hu, h⟩, hl => by
    rw [e, List.zip_cons_cons] at *
    rw [List.lookup_cons] at hl ⊢
    split at hl
    · cases hl; exact ⟨u', rfl, hu⟩
    · exact zip_lookup h hl
  | [], _, _, _, hl => by cases hl
  | _ :: _, [], _, _, hl => by cases hl
theorem rev_lookup {x : Str} {v : Value} {l : List (Str × Value)} (hn : (l.map (·.1)).Nodup) (h : l.lookup x = some v) : l.reverse.lookup x = some v := by
  have hm := mem_of_lookup h
  have hn' : ((l.reverse).map (·.1)).Nodup := ((List.reverse_perm l).map _).nodup_iff.mpr hn
  have hm' := List.mem_reverse.mpr hm
  clear hn h hm
  revert hn' hm'
  generalize l.reverse = r
  intro hn hm
  induction r with
  | nil => cases hm
  | cons q r ih =>
    rw [List.map_cons] at hn
    have hn' := List.nodup_cons.mp hn
    rcases List.mem_cons.mp hm with e | hm2
    · subst e; exact List.lookup_cons_self
    · obtain ⟨y, u⟩ := q
      have : x ≠ y := fun e => hn'.1 (by rw [← e]; exact List.mem_map.mpr ⟨(x, v), hm2, rfl⟩)
      rw [List.lookup_cons, beq_eq_false_iff_ne.mpr this]
      exact ih hn'.2 hm2
theorem zip_fst : ∀ {xs : List Str} {vs : List Value}, vs.length = xs.length → (xs.zip vs).map (·.1) = xs
  | [], [], _ => rfl
  | x :: xs, _ :: vs, h => by rw [List.zip_cons_cons, List.map_cons, zip_fst (Nat.succ.inj h)]
/-- what a call of a def keeps to -/
def SpecC (Z : Wd) (k : Nat) (fa : Addr) (vs : List SV) (led : List SE) (P : SV → List SE → Prop) : Prop :=
  ∀ (n : Fn) (f : Frm) (m : List (Str × SV)) (A : Around), Ok Z n f 0 → A.handled = none → A.frames = some (n.env f :: f.outer) → A.depth + 2 * k < recursionLimit → A.units + 40 * k < cLine →
    ∀ vs', VsAre vs vs' → ∀ R : Result → Shared → Prop, (∀ r led', P r led' → ∀ r' s', r.is r' → At Z f ⟨m, led'⟩ s' → R (.ok (.ret r')) s') → ∀ s, At Z f ⟨m, led⟩ s → codeAny Z.M A (.call (.ref fa) ⟨vs', []⟩) R s
noncomputable def Fl.val : Fl → SV
  | .ret v => v
  | _ => .none
def RetK (K : SV → List SE → Prop) : Fl → St → Prop := fun fl σ => K fl.val σ.led
/-- the same under a condition on the base heap -/
def SpecH (H : Heap → Prop) (Z : Wd) (k : Nat) (fa : Addr) (vs : List SV) (led : List SE) (P : SV → List SE → Prop) : Prop :=
  ∀ (n : Fn) (f : Frm) (m : List (Str × SV)) (A : Around), H f.h₀ → Ok Z n f 0 → A.handled = none → A.frames = some (n.env f :: f.outer) → A.depth + 2 * k < recursionLimit → A.units + 40 * k < cLine →
    ∀ vs', VsAre vs vs' → ∀ R : Result → Shared → Prop, (∀ r led', P r led' → ∀ r' s', r.is r' → At Z f ⟨m, led'⟩ s' → R (.ok (.ret r')) s') → ∀ s, At Z f ⟨m, led⟩ s → codeAny Z.M A (.call (.ref fa) ⟨vs', []⟩) R s
theorem SpecH.bodyG {H : Heap → Prop} (hH : ∀ {h g : Heap}, h.StaysIn g → H h → H g) {Z : Wd} {k : Nat} {fa : Addr} {vs : List SV} {led : List SE} {P : SV → List SE → Prop} {fd : FuncData} {xs : List Str} {b : List Stmt} (hfd : fdOf Z.K fa = some fd) (hb : fd.body = .stmts b) (ht : fnTab.lookup fa = some xs) (hn : xs.Nodup) {m0 : List (Str × SV)}
    (hbd : ∀ vs', VsAre vs vs' → ∀ s, Z.K.In s.heap → ∃ binds, BindsTo s fd ⟨vs', []⟩ binds ∧ binds.map (·.1) = xs ∧ ∀ x v, m0.lookup x = some v → ∃ v', binds.lookup x = some v' ∧ v.is v')
    (hB : ∀ f K, H f.h₀ → Ok Z (nOf fd fa) f k → (∀ {r led' ex rest}, Split led' ex rest → P r ex → K r led') → ExOk Z (nOf fd fa) f ⟨m0, led⟩ b (RetK K)) : SpecH H Z (k + 1) fa vs led P := by
  intro n f m A hbase O hh hA hdp hun vs' hv R hR s hs
  have hg := fn_is (P := Z.w.params) ht
  unfold fnGood at hg
  rw [hfd] at hg
  simp only [Bool.and_eq_true] at hg
  obtain ⟨⟨⟨⟨⟨⟨⟨⟨g1, g2⟩, g3⟩, g4⟩, g5⟩, g6⟩, g7⟩, g8⟩, g9⟩ := hg
  obtain ⟨o, hlo, hd⟩ := fdOf_is hfd
  obtain ⟨name, qual, params, body, scope, globals, closure, dV, kV, doc, pm, an, cdv, ct, bu⟩ := fd
  dsimp only at *
  cases hb
  have e1 := eq_of_beq g1
  have e2 := eq_of_beq g2
  have e3 := List.isEmpty_iff.mp g3
  subst e1 e2 e3
  obtain ⟨h, tk, m', c, rfl, F, lm, N, X, nd⟩ := hs
  have XK := O.X.keeps F.keep
  obtain ⟨binds, hb1, hb2, hb3⟩ := hbd vs' hv { f.sh with heap := h, toks := tk } XK
  refine callX_plain O.B F N O.T.nolimit hA rfl O.fk (XK _ _ hlo) hd (codeRec_of XK g9) (by omega) hb1 ?_ ?_ (fun x hx => ?_) (eq_of_beq g6) (eq_of_beq g7) (of_decide_eq_true g8)
  · intro y hy
    have hy' : y.1 ∈ xs := by rw [← hb2]; exact List.mem_map.mpr ⟨y, hy, rfl⟩
    exact of_decide_eq_true (List.all_eq_true.mp g4 _ hy')
  · intro g L' h₁ FG F' N' B' st' _
    obtain ⟨Ah, Ad, Af, Ag, Au⟩ := A
    dsimp only at hh hA hdp hun
    subst hh hA
    refine hB { dp := Ad + 1, un := Au + 3, gd := Ag, L := L', outer := n.env f :: f.outer, A₀ := _, base := f.base, h₀ := g, own := f.own, sh := f.sh } (fun r led' => ∃ ex rest, Split led' ex rest ∧ P r ex) (hH st' hbase) ⟨B', O.X.keeps st', O.T.keeps st', of_decide_eq_true g8, by dsimp only; omega, by dsimp only; omega⟩ (fun h1 h2 => ⟨_, _, h1, h2⟩) _ _ ?_ _ ⟨h₁, _, _, c, rfl, F', ?_, N', X, nd⟩
    · intro fl σ' hk fl' s' hf hs'
      obtain ⟨ex, rest, sp, hp⟩ := hk
      obtain ⟨h2, tk2, m2, c2, rfl, F2, lm2, N2, X2, nd2⟩ := At.drop (At.perm sp.perm hs')
      refine leaveK_ F2 N2 fun F3 N3 => hR fl.val ex hp _ _ ?_ ⟨h2, tk2, m', c2, rfl, F3, lm, N3, X2, nd2⟩
      cases fl with
      | ret v => obtain ⟨v', rfl, hv'⟩ := hf; exact hv'
      | _ => cases hf; rfl
    · intro x v hx
      obtain ⟨v', h1, h2⟩ := hb3 x v hx
      exact ⟨v', rev_lookup (by rw [hb2]; exact hn) h1, h2⟩
  · exact of_decide_eq_true (List.all_eq_true.mp g5 x hx)
theorem SpecC.bodyG {Z : Wd} {k : Nat} {fa : Addr} {vs : List SV} {led : List SE} {P : SV → List SE → Prop} {fd : FuncData} {xs : List Str} {b : List Stmt} (hfd : fdOf Z.K fa = some fd) (hb : fd.body = .stmts b) (ht : fnTab.lookup fa = some xs) (hn : xs.Nodup) {m0 : List (Str × SV)}
    (hbd : ∀ vs', VsAre vs vs' → ∀ s, Z.K.In s.heap → ∃ binds, BindsTo s fd ⟨vs', []⟩ binds ∧ binds.map (·.1) = xs ∧ ∀ x v, m0.lookup x = some v → ∃ v', binds.lookup x = some v' ∧ v.is v')
    (hB : ∀ f K, Ok Z (nOf fd fa) f k → (∀ {r led' ex rest}, Split led' ex rest → P r ex → K r led') → ExOk Z (nOf fd fa) f ⟨m0, led⟩ b (RetK K)) : SpecC Z (k + 1) fa vs led P :=
  fun n f m A O => SpecH.bodyG (H := fun _ => True) (fun _ _ => trivial) hfd hb ht hn hbd (fun f K _ => hB f K) n f m A trivial O
theorem SpecC.body {Z : Wd} {k : Nat} {fa : Addr} {vs : List SV} {led : List SE} {P : SV → List SE → Prop} {fd : FuncData} {xs : List Str} {b : List Stmt} (hfd : fdOf Z.K fa = some fd) (hb : fd.body = .stmts b) (ht : fnTab.lookup fa = some xs) (hl : vs.length = xs.length) (hn : xs.Nodup) (ho : BindOk fd xs)
    (hB : ∀ f K, Ok Z (nOf fd fa) f k → (∀ {r led' ex rest}, Split led' ex rest → P r ex → K r led') → ExOk Z (nOf fd fa) f ⟨xs.zip vs, led⟩ b (RetK K)) : SpecC Z (k + 1) fa vs led P :=
  SpecC.bodyG hfd hb ht hn (fun vs' hv _ _ => ⟨xs.zip vs', BindsTo.of_eq (ho.zip ((vsAre_len hv).trans hl)), zip_fst ((vsAre_len hv).trans hl), fun _ _ hx => zip_lookup hv hx⟩) hB
def noStar : List Expr → Bool
  | [] => true
  | .Starred _ _ :: _ => false
  | _ :: r => noStar r
theorem noStar_cons {e : Expr} {r : List Expr} (h : noStar (e :: r) = true) (env : Env) : starEach (e :: r) env = (false, eval e env) :: starEach r env ∧ noStar r = true := by
  cases e <;> first | exact ⟨rfl, h⟩ | cases h
theorem noStar_any {env : Env} {pos : Pos} : ∀ {l : List Expr}, noStar l = true → (backTo pos (starEach l env)).any (·.1) = false
  | [], _ => rfl
  | e :: r, h => by
    obtain ⟨h1, h2⟩ := noStar_cons h env
    rw [h1]
    show (false || (backTo pos (starEach r env)).any (·.1)) = false
    rw [noStar_any h2]; rfl
def ArgsOk (Z : Wd) (n : Fn) (f : Frm) (σ : St) (args : List Expr) (K : List SV → St → Prop) : Prop := ∀ pos, EvL Z n f σ (spliced (backTo pos (starEach args (n.env f)))) K
inductive PEs (n : Fn) (σ : St) : List Expr → List SV → Prop
  | nil : PEs n σ [] []
  | cons {e r v vs} : PE n σ e v → PEs n σ r vs → PEs n σ (e :: r) (v :: vs)
noncomputable def methTab : List (Addr × List (Str × Addr)) :=
  [(182, [(Str.ofString "numbers", 137), (Str.ofString "put", 144), (Str.ofString "drop", 151), (Str.ofString "inserted", 165), (Str.ofString "deleted", 172)]),
   (350, [(Str.ofString "size", 284), (Str.ofString "codes", 298), (Str.ofString "move_gap", 305), (Str.ofString "widen_gap", 312), (Str.ofString "insert", 319), (Str.ofString "delete", 326)]),
   (456, [(Str.ofString "size", 404), (Str.ofString "goto", 425), (Str.ofString "touch", 453)])]
theorem meth_all (P : Params) : (methTab.all fun q => q.2.all fun x => plainGet (Mine.hd.heap_39 P) q.1 x.1 && findIn (Mine.hd.heap_39 P) (.ref q.1) x.1 == some (some (.ref x.2)) && isFn (Mine.hd.heap_39 P) (.ref x.2) && keepIn (Mine.hd.heap_39 P) (.ref x.2)) = true := by kernel_rfl
theorem meth_is {P : Params} {C fa : Addr} {x : Str} (h : (methTab.lookup C).bind (·.lookup x) = some fa) : plainGet (Mine.hd.heap_39 P) C x = true ∧ findIn (Mine.hd.heap_39 P) (.ref C) x = some (some (.ref fa)) ∧ isFn (Mine.hd.heap_39 P) (.ref fa) = true ∧ keepIn (Mine.hd.heap_39 P) (.ref fa) = true := by
  obtain ⟨l, hl, hx⟩ := Option.bind_eq_some_iff.mp h
  have h1 := List.all_eq_true.mp (List.all_eq_true.mp (meth_all P) _ (mem_of_lookup hl)) _ (mem_of_lookup hx)
  simp only [Bool.and_eq_true] at h1
  exact ⟨h1.1.1.1, eq_of_beq h1.1.1.2, h1.1.2, h1.2⟩
noncomputable def initTab : List (Addr × Addr) := [(114, 90), (182, 130), (210, 207), (350, 277), (456, 369)]
theorem init_all (P : Params) : (initTab.all fun q => makesIn (Mine.hd.heap_39 P) q.1 && findIn (Mine.hd.heap_39 P) (.ref q.1) (Str.ofString "__init__") == some (some (.ref q.2)) && isFn (Mine.hd.heap_39 P) (.ref q.2)) = true := by kernel_rfl
section
variable {Z : Wd} {n : Fn} {f : Frm} {σ : St} {k j : Nat} {e o : Expr} {x : Str} {p pos : Pos} {rest : List Stmt} {v : SV} {a C fa : Addr} {es : List (Str × SV)} {vs : List SV} {args : List Expr} {ex rst : List SE} {P : SV → List SE → Prop} {K : SV → St → Prop}
theorem SpecC.call (S : SpecC Z j fa vs ex P) (O : Ok Z n f k) (hj : j ≤ k) (sp : Split σ.led ex rst) (hK : ∀ r ex', P r ex' → K r ⟨σ.m, ex' ++ rst⟩) : CallOk Z n f σ (.ref fa) vs K := by
  intro vs' hv R E hR s hs
  obtain ⟨c2, X2, hs'⟩ := At.put (At.perm sp.perm hs)
  have O' := O.le hj
  refine wpAny_call (S n { f with own := c2 ++ f.own } σ.m (n.A f) ⟨O.B, O.X, O.T, O.fk, (O.le (Nat.zero_le _)).dp, (O.le (Nat.zero_le _)).un⟩ rfl rfl O'.dp O'.un vs' hv _ (fun r led' hp r' s' hr hs2 => ?_) s hs')
  exact hR r _ (hK r led' hp) r' s' hr (At.back X2 hs2)
theorem args_pe {K : List SV → St → Prop} (O : Ok Z n f k) (h : PEs n σ args vs) (hK : K vs σ) : ArgsOk Z n f σ args K := by
  intro pos
  induction h generalizing K with
  | nil => exact fun R E hR s hs => args_nil (hR [] σ hK [] s rfl hs)
  | @cons e r v vs h1 _ ih =>
    refine fun _ E hR s hs => args_cons (h1.sound O (fun v' s1 hv hs1 => ?_) hs) (h1.star _ _)
    exact ih (K := fun us τ => us = vs ∧ τ = σ) ⟨rfl, rfl⟩ _ E (fun us τ hk vs' _ hvs hs2 => by obtain ⟨rfl, rfl⟩ := hk; exact hR _ _ hK _ _ ⟨v', vs', rfl, hv, hvs⟩ hs2) s1 hs1
theorem args_nilE {K : List SV → St → Prop} (hK : K [] σ) : ArgsOk Z n f σ [] K := fun _ _ _ hR s hs => args_nil (hR [] σ hK [] s rfl hs)
theorem args_ev {K : List SV → St → Prop} (h : EvOk Z n f σ e fun v σ1 => ArgsOk Z n f σ1 args fun vs σ2 => K (v :: vs) σ2) (hn : noStar (e :: args) = true := by rfl) : ArgsOk Z n f σ (e :: args) K :=
  fun pos R E hR s hs => args_cons (h _ E (fun _ _ hk v' s1 hv hs1 => hk pos _ E (fun _ _ hk2 vs' s2 hvs hs2 => hR _ _ hk2 _ _ ⟨v', vs', rfl, hv, hvs⟩ hs2) s1 hs1) s hs) (noStar_cons hn _).1
theorem At.kin (O : Ok Z n f k) {s : Shared} (hs : At Z f σ s) : Z.K.In s.heap := by
  obtain ⟨h, tk, m, c, rfl, F, _⟩ := hs
  exact O.X.keeps F.keep
/-- a known callee takes its arguments -/
theorem with_args {g : Addr} {first : List Value} {fs : List SV} {pos : Pos} (O : Ok Z n f k) (hk : keepIn Z.K (.ref g) = true) (hf : VsAre fs first) (hn : noStar args = true) (h : ArgsOk Z n f σ args fun vs σ1 => CallOk Z n f σ1 (.ref g) (fs ++ vs) K)
    {R E : Value → Shared → Prop} (hR : ∀ v σ', K v σ' → ∀ v' s', v.is v' → At Z f σ' s' → R v' s') {s : Shared} (hs : At Z f σ s) : wpAny Z.M (n.A f) (callWith pos (.ref g) first (backTo pos (starEach args (n.env f))) []) R E s := by
  cases args with
  | nil =>
    have H := h pos (fun vs' s' => wpAny Z.M (n.A f) (call (.ref g) (first ++ vs')) R E s') E (fun vs σ1 hk1 vs' s1 hvs hs1 => hk1 _ (vsAre_app.mpr ⟨_, _, rfl, hf, hvs⟩) R E hR s1 hs1) s hs
    exact fun Γ q hΓ => callWith_K0 (hs.kin O) hk (show wpAny Z.M (n.A f) (call (.ref g) (first ++ [])) R E s from H Γ q hΓ) Γ q hΓ
  | cons e r =>
    obtain ⟨he, hr⟩ := noStar_cons hn (n.env f)
    exact callWith_K O.X hk (h pos _ E (fun vs σ1 hk1 vs' s1 hvs hs1 => ⟨hs1.kin O, hk1 _ (vsAre_app.mpr ⟨_, _, rfl, hf, hvs⟩) R E hR s1 hs1⟩) s hs) he (noStar_any hr)
theorem ev_call {g : Addr} (O : Ok Z n f k) (hx : n.cs.names.lookup x = some .globalImplicit) (hd : (x == Str.ofString "__debug__") = false) (hg : globTab.lookup x = some g) (hn : noStar args = true) (h : ArgsOk Z n f σ args fun vs σ1 => CallOk Z n f σ1 (.ref g) vs K)
    (hc : eval (.Call (.Name x p) args [] pos) (n.env f) = (do
      let fv ← eval (.Name x p) (n.env f)
      callWith pos fv [] (backTo pos (starEach args (n.env f))) (backToKw pos (keywordEach [] (n.env f)))) := by rfl) : EvOk Z n f σ (.Call (.Name x p) args [] pos) K := by
  intro R E hR s hs
  refine Call_ ?_ hc
  have hs0 := hs
  obtain ⟨h1, tk, m, c, rfl, F, lm, N, X, nd⟩ := hs
  obtain ⟨g1, g2⟩ := glob_is (P := Z.w.params) hg
  exact nameX_K F O.X (topRead_of O.T) g1 (with_args (fs := []) O g2 rfl hn h hR hs0) O.fk hx hd
theorem ev_meth {g : Addr} {ap : Pos} {pl : Sem Bool} (O : Ok Z n f k) (ho : PE n σ o (.ref a)) (hm : .obj a C es ∈ σ.led) (hg : (methTab.lookup C).bind (·.lookup x) = some g) (hl : es.lookup x = none) (hn : noStar args = true) (h : ArgsOk Z n f σ args fun vs σ1 => CallOk Z n f σ1 (.ref g) (.ref a :: vs) K)
    (hc : eval (.Call (.Attribute o x ap) args [] pos) (n.env f) = (do
      let ov ← eval o (n.env f)
      standAt ap.atName
      let (fx, first) ← holding [ov] (getMethod ov x pl)
      callWith pos fx first (backTo pos (starEach args (n.env f))) []) := by with_unfolding_all rfl) : EvOk Z n f σ (.Call (.Attribute o x ap) args [] pos) K := by
  intro R E hR s hs
  refine MethodCall_ (ho.sound O (fun o' s1 hao hs1 => ?_) hs) hc
  cases hao
  obtain ⟨g1, g2, g3, g4⟩ := meth_is (P := Z.w.params) hg
  obtain ⟨m, c, d, es', q, F, N, I, hf⟩ := hs1.inst hm
  exact method_inst F O.X I g1 g2 g3 ((fields_get hf).2.1 hl) (with_args (fs := [.ref a]) O g4 ⟨_, _, rfl, rfl, rfl⟩ hn h hR hs1)
theorem init_is {P : Params} {C fI : Addr} (h : initTab.lookup C = some fI) : makesIn (Mine.hd.heap_39 P) C = true ∧ findIn (Mine.hd.heap_39 P) (.ref C) (Str.ofString "__init__") = some (some (.ref fI)) ∧ isFn (Mine.hd.heap_39 P) (.ref fI) = true := by
  have h1 := List.all_eq_true.mp (init_all P) _ (mem_of_lookup h)
  simp only [Bool.and_eq_true] at h1
  exact ⟨h1.1.1, eq_of_beq h1.1.2, h1.2⟩
/-- an object made and set up -/
theorem call_new {fI : Addr} {P : Addr → SV → List SE → Prop} (O : Ok Z n f k) (hi : initTab.lookup C = some fI) (hj : j + 1 ≤ k) (sp : Split σ.led ex rst)
    (S : ∀ a, SpecC Z j fI (.ref a :: vs) (.obj a C [] :: ex) (P a)) (hK : ∀ a r ex', P a r ex' → r = .none ∧ K (.ref a) ⟨σ.m, ex' ++ rst⟩) : CallOk Z n f σ (.ref C) vs K := by
  intro vs' hv R E hR s hs
  obtain ⟨c2, X2, hs'⟩ := At.put (At.perm sp.perm hs)
  obtain ⟨h, tk, m, c, rfl, F, lm, N, X, nd⟩ := hs'
  obtain ⟨i1, i2, i3⟩ := init_is (P := Z.w.params) hi
  refine call_cls F O.X N i1 i2 i3 fun x dx h' F' N' l1 l2 => ?_
  have O' := O.le hj
  have nd' : (((x, instObj C dx) :: (dx, dictOf [] 0) :: (c ++ (c2 ++ f.own))).map (·.1)).Nodup := by
    have h1 : ∀ a ∈ (c ++ (c2 ++ f.own)).map (·.1), @LT.lt Nat _ a dx := fun a ha => by
      obtain ⟨q, hq, rfl⟩ := List.mem_map.mp ha
      exact l1 q hq
    refine List.nodup_cons.mpr ⟨fun hx => ?_, List.nodup_cons.mpr ⟨fun hx => Nat.lt_irrefl _ (h1 _ hx), nd⟩⟩
    rcases List.mem_cons.mp hx with e | hx
    · exact Nat.ne_of_gt l2 e
    · exact Nat.lt_irrefl _ (Nat.lt_trans l2 (h1 _ hx))
  refine S x n { f with own := c2 ++ f.own } σ.m _ ⟨O.B, O.X, O.T, O.fk, (O.le (Nat.zero_le _)).dp, (O.le (Nat.zero_le _)).un⟩ rfl rfl (by have := O'.dp; have := O.dp; show f.dp + 1 + 2 * j < recursionLimit; omega) (by rw [units_under_make]; have := O.un; show f.un + _ + 40 * j < cLine; omega) (.ref x :: vs') ⟨_, _, rfl, rfl, hv⟩ _ (fun r led' hp r' s' hr hs2 => ?_) _
    ⟨h', _, m, (x, instObj C dx) :: (dx, dictOf [] 0) :: c, rfl, F', lm, N', ⟨_, c, rfl, ⟨dx, [], 0, rfl, rfl⟩, X⟩, nd'⟩
  obtain ⟨rfl, hk⟩ := hK x r led' hp
  cases hr
  exact ⟨rfl, hR _ _ hk _ _ rfl (At.back X2 hs2)⟩
end
def pick {α : Type} (l : List α) (lo hi : Option Int) : List α := (l.drop (kms_lo lo l.length)).take (kms_hi hi l.length - kms_lo lo l.length)
theorem vsAre_pick {xs : List SV} {vs : List Value} (h : VsAre xs vs) (lo hi : Option Int) : VsAre (pick xs lo hi) (kms_pick vs lo hi) := by
  unfold pick kms_pick
  rw [vsAre_len h]
  exact (vsAre_take _ (vsAre_take _ h).2).1
inductive PEo (n : Fn) (σ : St) : Option Expr → Option Int → Prop
  | none : PEo n σ none none
  | some {e i} : PE n σ e (.int i) → PEo n σ (some e) (some i)
section
variable {Z : Wd} {n : Fn} {f : Frm} {σ : St} {k j : Nat} {e o : Expr} {x : Str} {p pos : Pos} {rest : List Stmt} {v : SV} {a C fa : Addr} {es : List (Str × SV)} {vs : List SV} {args : List Expr} {ex rst : List SE} {K : SV → St → Prop}
theorem At.new {h' : Heap} {tk : Nat} {m : Str → Option Value} {c : List (Addr × Obj)} {D : Addr} {ob : Obj} {e : SE} (F' : Fr f.h₀ f.L h' m) (lm : LocIs σ.m m) (N' : News f.h₀ f.L h' ((D, ob) :: (c ++ f.own))) (l1 : ∀ q ∈ c ++ f.own, q.1 < D) (he : e.is Z [(D, ob)]) (X : Exp Z σ.led c)
    (nd : ((c ++ f.own).map (·.1)).Nodup) : At Z f ⟨σ.m, e :: σ.led⟩ { f.sh with heap := h', toks := tk } :=
  ⟨h', tk, m, (D, ob) :: c, rfl, F', lm, N', ⟨[(D, ob)], c, rfl, he, X⟩, List.nodup_cons.mpr ⟨fun hx => by
    obtain ⟨q, hq, e⟩ := List.mem_map.mp hx
    exact Nat.lt_irrefl _ (e ▸ l1 q hq), nd⟩⟩
theorem PEo.sound (O : Ok Z n f k) {e : Option Expr} {i : Option Int} (h : PEo n σ e i) {R E : Value → Shared → Prop} (hR : ∀ v' s', IsPart v' i → At Z f σ s' → R v' s') {s : Shared} (hs : At Z f σ s) : wpAny Z.M (n.A f) (evalPart e (n.env f)) R E s := by
  cases h with
  | none => exact wpAny_pure (hR _ _ .none hs)
  | some h => exact h.sound O (fun v' s' hv hs' => by obtain ⟨t, rfl⟩ := hv; exact hR _ _ (.int _ _) hs') hs
theorem ev_slice {lo hi : Option Expr} {i u : Option Int} {sp : Pos} {l : Addr} (O : Ok Z n f k) (ho : PE n σ o (.ref l)) (hl : .list l vs ∈ σ.led) (h1 : PEo n σ lo i) (h2 : PEo n σ hi u) (hz : vs.length ≤ 100000) (hK : ∀ D, K (.ref D) ⟨σ.m, .list D (pick vs i u) :: σ.led⟩) : EvOk Z n f σ (.Subscript o (.Slice lo hi none sp) pos) K := by
  refine fun R E hR s hs => Subscript_ (ho.sound O (fun o' s1 hao hs1 => ?_) hs)
  cases hao
  refine wpAny_Slice (h1.sound O (fun v1 s2 hv1 hs2 => h2.sound O (fun v2 s3 hv2 hs3 => wpAny_pure ?_) hs2) hs1)
  obtain ⟨vs', hil, hv⟩ := hs3.isList hl
  obtain ⟨h, tk, m, c, rfl, F, lm, N, X, nd⟩ := hs3
  exact kba_turn (value' := .Name (Str.ofString "x") default) (fun _ => rfl) (kms_slice_lit F N hil hv1 hv2 rfl (fun D h' F' N' l1 => hR _ _ (hK D) _ _ rfl (At.new F' lm N' l1 ⟨_, _, rfl, vsAre_pick hv i u⟩ X nd)) rfl (fun _ => rfl) (by rw [List.size_toArray, vsAre_len hv, sizeLine_eq]; omega))
theorem newL {K : SV → St → Prop} {vs : List SV} (hz : vs.length ≤ 100000) (hK : ∀ D, K (.ref D) ⟨σ.m, .list D vs :: σ.led⟩) {vs' : List Value} (hv : VsAre vs vs') : EvV Z n f σ (newList vs') K := by
  rintro R E hR s ⟨h, tk, m, c, rfl, F, lm, N, X, nd⟩
  exact newList_K F N (fun D h' F' N' l1 => hR _ _ (hK D) _ _ rfl (At.new F' lm N' l1 ⟨_, _, rfl, hv⟩ X nd)) (by rw [vsAre_len hv, sizeLine_eq]; omega)
theorem ev_list (h : ArgsOk Z n f σ args fun vs σ1 => vs.length ≤ 100000 ∧ ∀ D, K (.ref D) ⟨σ1.m, .list D vs :: σ1.led⟩) : EvOk Z n f σ (.List args pos) K :=
  fun R E hR s hs => List_ (h pos _ E (fun _ _ hk vs' s1 hv hs1 => newL hk.1 hk.2 hv R E hR s1 hs1) s hs)
theorem ev_cat {l r : Expr} (O : Ok Z n f k) (h : EvOk Z n f σ l fun v σ1 => ∃ b, v = .ref b ∧ EvOk Z n f σ1 r fun u σ2 => ∃ (c : Addr) (xs ys : List SV), u = .ref c ∧ .list b xs ∈ σ2.led ∧ .list c ys ∈ σ2.led ∧ xs.length + ys.length ≤ 100000 ∧ ∀ D, K (.ref D) ⟨σ2.m, .list D (xs ++ ys) :: σ2.led⟩) : EvOk Z n f σ (.BinOp l .Add r pos) K := by
  refine fun R E hR s hs => wpAny_BinOp (h _ E (fun v σ1 hk v' s1 hv hs1 => ?_) s hs)
  obtain ⟨b, rfl, hk⟩ := hk
  refine hk _ E (fun u σ2 hk2 u' s2 hu hs2 => ?_) s1 hs1
  obtain ⟨c, x, y, rfl, m1, m2, hz, hK⟩ := hk2
  cases hv
  cases hu
  obtain ⟨xs', hl1, hx⟩ := hs2.isList m1
  obtain ⟨ys', hl2, hy⟩ := hs2.isList m2
  obtain ⟨h, tk, m, c, rfl, F, lm, N, X, nd⟩ := hs2
  refine add_arrays F N hl1 hl2 (fun h' F' N' => hR _ _ (hK _) _ _ rfl (At.new F' lm N' (fun q hq => Heap.lt_size (N q hq).1) ⟨xs' ++ ys', 0, rfl, vsAre_app.mpr ⟨_, _, rfl, hx, hy⟩⟩ X nd)) ?_
  rw [List.size_toArray, List.size_toArray, vsAre_len hx, vsAre_len hy, sizeLine_eq]; omega
theorem ev_sliceA {lo hi : Option Expr} {i u : Int} {N : Int} {sp : Pos} {l : Addr} (O : Ok Z n f k) (ho : PE n σ o (.ref l)) (hl : .anyL l N ∈ σ.led) (h1 : PEo n σ lo (some i)) (h2 : PEo n σ hi (some u)) (b : 0 ≤ i ∧ i ≤ u ∧ u ≤ N ∧ N ≤ 100000) (hK : ∀ D, K (.ref D) ⟨σ.m, .anyL D (u - i) :: σ.led⟩) : EvOk Z n f σ (.Subscript o (.Slice lo hi none sp) pos) K := by
  refine fun R E hR s hs => Subscript_ (ho.sound O (fun o' s1 hao hs1 => ?_) hs)
  cases hao
  refine wpAny_Slice (h1.sound O (fun v1 s2 hv1 hs2 => h2.sound O (fun v2 s3 hv2 hs3 => wpAny_pure ?_) hs2) hs1)
  obtain ⟨vs', hil, hv⟩ := hs3.isAny hl
  obtain ⟨h, tk, m, c, rfl, F, lm, N, X, nd⟩ := hs3
  obtain ⟨b0, b1, b2, b3⟩ := b
  refine kba_turn (value' := .Name (Str.ofString "x") default) (fun _ => rfl) (kms_slice_lit F N hil hv1 hv2 rfl (fun D h' F' N' l1 => hR _ _ (hK D) _ _ rfl (At.new F' lm N' l1 ⟨_, _, rfl, ?_⟩ X nd)) rfl (fun _ => rfl) (by rw [List.size_toArray, sizeLine_eq]; omega))
  unfold kms_pick kms_lo kms_hi
  dsimp only
  rw [if_neg (by omega), if_neg (by omega), List.length_take, List.length_drop]
  omega
theorem ev_mulA {l r : Expr} (O : Ok Z n f k) (h : EvOk Z n f σ l fun v σ1 => ∃ b i, v = .ref b ∧ PE n σ1 r (.int i) ∧ .anyL b 1 ∈ σ1.led ∧ 0 ≤ i ∧ i ≤ 100000 ∧ ∀ D, K (.ref D) ⟨σ1.m, .anyL D i :: σ1.led⟩) : EvOk Z n f σ (.BinOp l .Mult r pos) K := by
  refine fun R E hR s hs => wpAny_BinOp (h _ E (fun v σ1 hk v' s1 hv hs1 => ?_) s hs)
  obtain ⟨b, i, rfl, hp, hl, i0, i1, hK⟩ := hk
  refine hp.sound O (fun u' s2 hu hs2 => ?_) hs1
  cases hv
  obtain ⟨t, rfl⟩ := hu
  obtain ⟨h, tk, m, c, rfl, F, lm, N, X, nd⟩ := hs2
  obtain ⟨pre, c1, post, rfl, vs', q, rfl, hv⟩ := Exp.mem hl X
  have hz : vs'.toArray.size = 1 := by rw [List.size_toArray]; omega
  refine mul_list F N (N.get (o := W.listOf vs'.toArray q) (by simp)) (by omega) (by omega) (by rw [hz]; omega) fun h' F' N' => hR _ _ (hK _) _ _ rfl (At.new F' lm N' (fun q hq => Heap.lt_size (N q hq).1) ⟨(List.foldl (fun x1 x2 => x1 ++ x2) #[] (List.replicate (if vs'.toArray.isEmpty = true then 0 else i.toNat) vs'.toArray)).toList, 0, rfl, ?_⟩ X nd)
  rw [if_neg (by rw [Array.isEmpty_iff_size_eq_zero, hz]; decide)]
  have e : ∀ (q : Nat) (a : Array Value), (List.foldl (fun x1 x2 => x1 ++ x2) a (List.replicate q vs'.toArray)).toList.length = a.size + q := by
    intro q
    induction q with
    | zero => intro a; rfl
    | succ q ih => intro a; rw [List.replicate_succ, List.foldl_cons, ih, Array.size_append, hz]; omega
  rw [e]
  simp only [Array.size_empty]
  omega
theorem ev_listA (h : ArgsOk Z n f σ args fun vs σ1 => ∃ N : Int, (vs.length : Int) = N ∧ N ≤ 100000 ∧ ∀ D, K (.ref D) ⟨σ1.m, .anyL D N :: σ1.led⟩) : EvOk Z n f σ (.List args pos) K := by
  refine fun R E hR s hs => List_ (h pos _ E (fun vs σ1 hk vs' s1 hv hs1 => ?_) s hs)
  obtain ⟨len, e, hz, hK⟩ := hk
  obtain ⟨h, tk, m, c, rfl, F, lm, N, X, nd⟩ := hs1
  exact newList_K F N (fun D h' F' N' l1 => hR _ _ (hK D) _ _ rfl (At.new F' lm N' l1 ⟨_, _, rfl, by rw [vsAre_len hv]; exact e⟩ X nd)) (by rw [vsAre_len hv, sizeLine_eq]; omega)
theorem ev_catA {l r : Expr} (O : Ok Z n f k) (h : EvOk Z n f σ l fun v σ1 => ∃ b, v = .ref b ∧ EvOk Z n f σ1 r fun u σ2 => ∃ (c : Addr) (x y : Int), u = .ref c ∧ .anyL b x ∈ σ2.led ∧ .anyL c y ∈ σ2.led ∧ x + y ≤ 100000 ∧ ∀ D, K (.ref D) ⟨σ2.m, .anyL D (x + y) :: σ2.led⟩) : EvOk Z n f σ (.BinOp l .Add r pos) K := by
  refine fun R E hR s hs => wpAny_BinOp (h _ E (fun v σ1 hk v' s1 hv hs1 => ?_) s hs)
  obtain ⟨b, rfl, hk⟩ := hk
  refine hk _ E (fun u σ2 hk2 u' s2 hu hs2 => ?_) s1 hs1
  obtain ⟨c, x, y, rfl, m1, m2, hz, hK⟩ := hk2
  cases hv
  cases hu
  obtain ⟨xs', hl1, hx⟩ := hs2.isAny m1
  obtain ⟨ys', hl2, hy⟩ := hs2.isAny m2
  obtain ⟨h, tk, m, c, rfl, F, lm, N, X, nd⟩ := hs2
  refine add_arrays F N hl1 hl2 (fun h' F' N' => hR _ _ (hK _) _ _ rfl (At.new F' lm N' (fun q hq => Heap.lt_size (N q hq).1) ⟨xs' ++ ys', 0, rfl, by rw [List.length_append]; omega⟩ X nd)) ?_
  rw [List.size_toArray, List.size_toArray, sizeLine_eq]; omega
end
def slCut (vs ws : List Value) (a b : Nat) : List Value := vs.take a ++ ws ++ vs.drop b
section
variable {prog : Program} {w : World} {A : Around} {E : Value → Shared → Prop} {s : Shared}
theorem setItem_cut {l sl D : Addr} {vs ws : List Value} {n : Nat} {x y : Int} {tx ty : Tok} {Q : Unit → Shared → Prop} (ho : s.heap.get? l = some (listOf vs.toArray n)) (hs : s.heap.IsSliceOf sl (.int x tx) (.int y ty) .none)
    (hw : s.heap.IsList D ws.toArray) (hDl : D ≠ l) (h0 : 0 ≤ x) (hxy : x ≤ y) (hy : y ≤ vs.length) (hv1 : vs.length ≤ 100000) (hw1 : ws.length ≤ 100000)
    (hQ : Q () { s with heap := s.heap.update l (Obj.mapSeq fun xs => xs.extract 0 x.toNat ++ ws.toArray ++ xs.extract (max x y).toNat xs.size) }) : wpAny (model prog w) A (setItem (.ref l) (.ref sl) (.ref D)) Q E s := by
  have hl : s.heap.IsList l vs.toArray := PySem.IsL.isList (n := n) ho
  obtain ⟨os, hos, hcs, hds⟩ := id hs
  have hTs : s.TypeIs (.ref sl) "slice" := ⟨os, hos, hcs⟩
  have hz : vs.toArray.size ≤ sizeLine := by rw [sizeLine_eq, List.size_toArray]; omega
  unfold setItem
  try with_reducible refine wpAny_holding ?_
  first | refine wpAny_bind (wpAny_pure ?_) | skip
  refine wpAny_bind (wpAny_sequenceKey hl.typeIs (by decide) ?_)
  refine wpAny_bind (wpAny_callSpecial?_slot (name := Str.ofString "__setitem__") hl.typeIs slot_list_setitem
    (wpAny_call_entry slot_list_setitem hl.typeIs entry_list_setitem ?_ (args_list_setitem _ _ _)))
  show wpAny _ _ (Builtin.List.listSubscript? (.ref sl) >>= _) _ _ s
  refine wpAny_bind ?_
  unfold Builtin.List.listSubscript?
  refine wpAny_bind (wpAny_specialOf hTs slice_no_index ?_)
  simp only [Option.isNone_none, if_true]
  refine wpAny_pure ?_
  show wpAny _ _ (typeOf (.ref sl) >>= _) _ _ s
  refine wpAny_bind (wpAny_typeOf hTs ?_)
  rw [if_neg (by decide)]
  rw [listSliceParts_eq]
  refine wpAny_bind (wpAny_bind (wpAny_field hos hds (x := .none) rfl (wpAny_bind (wpAny_listPart .none ?_))))
  rw [if_neg (by decide)]
  refine wpAny_bind (wpAny_field hos hds (x := .int x tx) rfl (wpAny_bind (wpAny_listPart (.int x tx) ?_)))
  refine wpAny_bind (wpAny_field hos hds (x := .int y ty) rfl (wpAny_bind (wpAny_listPart (.int y ty) (wpAny_pure ?_))))
  have hsame : Builtin.List.listSameRef (.ref l) (.ref D) = false := by simp [Builtin.List.listSameRef, Ne.symm hDl]
  dsimp only
  rw [hsame]
  simp only [Bool.false_eq_true, if_false]
  refine wpAny_bind ?_
  unfold Builtin.List.listAllItems
  refine wpAny_bind (wpAny_typeOf hw.typeIs ?_)
  rw [if_pos (by decide)]
  obtain ⟨oD, hoD, hcD, nD, hdD⟩ := hw
  unfold Builtin.List.listItems
  refine wpAny_bind (wpAny_seqItems hoD hdD (wpAny_pure ?_))
  refine wpAny_bind (wpAny_bind (wpAny_seqItems ho rfl (wpAny_pure ?_)))
  refine wpAny_bind (wpAny_of_eq (sliceIndices_raw (some x) (some y) none vs.toArray.size (by simp)) ?_)
  have e : sliceBounds (some x) (some y) none vs.toArray.size = (x, y, 1) := by
    simp only [sliceBounds, Option.getD_none, show (1 : Int) > 0 by decide, if_true, if_neg (show ¬ (x < 0) by omega), if_neg (show ¬ (y < 0) by omega), List.size_toArray]
    refine Prod.ext ?_ (Prod.ext ?_ rfl) <;> simp only <;> omega
  rw [e]
  dsimp only
  rw [if_pos (by decide)]
  refine wpAny_bind (wpAny_rule ?_)
  rw [if_neg (by simp only [Builtin.List.listTooLong, List.size_toArray, decide_eq_true_eq, sizeLine_eq]; omega)]
  refine wpAny_bind (wpAny_updateSeq ho rfl ?_ hz ?_)
  · refine wpAny_bind (wpAny_letGo ?_)
    first
      | exact wpAny_bind (wpAny_pure (wpAny_pure ⟨.none, rfl, wpAny_pure hQ⟩))
      | exact wpAny_pure ⟨.none, rfl, wpAny_pure hQ⟩
  · simp only [Array.size_append, Array.size_extract, List.size_toArray, sizeLine_eq]
    omega
end
section
variable {Z : Wd} {n : Fn} {f : Frm} {σ : St} {k j : Nat} {e o : Expr} {x : Str} {p pos : Pos} {v : SV}
theorem as_cutA {K : St → Prop} {lo hi : Expr} {x y N y2 : Int} {sp : Pos} {l D : Addr} {led1 led2 : List SE} (O : Ok Z n f k) (ho : PE n σ o (.ref l)) (h1 : PE n σ lo (.int x)) (h2 : PE n σ hi (.int y)) (T : Take (.anyL D y2) σ.led led1) (U : UpdE (.anyL l N) (.anyL l (N - (y - x) + y2)) led1 led2)
    (b : 0 ≤ x ∧ x ≤ y ∧ y ≤ N ∧ N ≤ 100000 ∧ y2 ≤ 100000) (hK : K ⟨σ.m, .anyL D y2 :: led2⟩) : AsOk Z n f σ (.Subscript o (.Slice (some lo) (some hi) none sp) pos) (.ref D) K := by
  refine fun v' hv R E hR s hs => kas_sub (ho.sound O (fun o' s1 hao hs1 => wpAny_Slice ((PEo.some h1).sound O (fun v1 s2 hv1 hs2 => (PEo.some h2).sound O (fun v2 s3 hv2 hs3 => wpAny_pure ?_) hs2) hs1)) hs)
  cases hao
  cases hv
  cases hv1
  cases hv2
  obtain ⟨b0, b1, b2, b3, b4⟩ := b
  obtain ⟨h, tk, m, c, rfl, F, lm, N', X, nd⟩ := At.perm T.perm hs3
  obtain ⟨c1, c2, rfl, ⟨ws, q, rfl, hw⟩, X2⟩ := X
  obtain ⟨pre, c3, post, rfl, ⟨vs, q2, rfl, hvs⟩, hX⟩ := U.exp X2
  have nd1 := List.nodup_cons.mp nd
  have nd2 : ((((D, W.listOf ws.toArray q) :: pre) ++ (l, W.listOf vs.toArray q2) :: (post ++ f.own)).map (·.1)).Nodup := by
    simp only [List.append_assoc, List.cons_append, List.nil_append] at nd ⊢; exact nd
  have N2 : News f.h₀ f.L h (((D, W.listOf ws.toArray q) :: pre) ++ (l, W.listOf vs.toArray q2) :: (post ++ f.own)) := by
    simp only [List.append_assoc, List.cons_append, List.nil_append] at N' ⊢; exact N'
  have hd := upd_of nd2
  have hDl : D ≠ l := hd.1 _ (.head _)
  rename_i tx ty
  have ge : ∀ ob, News f.h₀ f.L (h.push ob) (((D, W.listOf ws.toArray q) :: pre) ++ (l, W.listOf vs.toArray q2) :: (post ++ f.own)) := fun ob => N2.grown fun _ _ e => Heap.get?_push_of_some _ e
  have z0 := N2 (l, W.listOf vs.toArray q2) (by simp)
  have z1 := ge { cls := .type "slice", data := .fields #[.int x tx, .int y ty, .none] } (l, W.listOf vs.toArray q2) (by simp)
  have e : vs.toArray.extract 0 x.toNat ++ ws.toArray ++ vs.toArray.extract (max x y).toNat vs.toArray.size = (slCut vs ws x.toNat y.toNat).toArray := by
    apply Array.toList_inj.mp
    rw [show max x y = y by omega]
    simp only [slCut, Array.toList_append, Array.toList_extract, List.extract_eq_drop_take, List.size_toArray, List.drop_zero, Nat.sub_zero]
    rw [List.take_of_length_le (l := List.drop y.toNat vs) (by rw [List.length_drop]; omega)]
  have hw' : h.IsList D ws.toArray := ⟨_, (N2 (D, W.listOf ws.toArray q) (by simp)).1, rfl, q, rfl⟩
  refine setItem_cut z1.1 (Heap.IsSliceOf.new ..) (hw'.at fun o e => Heap.get?_push_of_some _ e) hDl b0 b1 (by omega) (by omega) (by omega) ?_
  refine hR () _ hK _ _ rfl ⟨_, _, m, (D, W.listOf ws.toArray q) :: (pre ++ [(l, W.listOf (slCut vs ws x.toNat y.toNat).toArray (if (slCut vs ws x.toNat y.toNat).toArray.size == vs.toArray.size then q2 else q2 + 1))] ++ post), rfl, (F.push _).change (Heap.SameBut.update ..) z1.2.1 z1.2.2, lm, ?_, ?_, ?_⟩
  · have := ki_turn (fun xs => xs.extract 0 x.toNat ++ ws.toArray ++ xs.extract (max x y).toNat xs.size) (ge { cls := .type "slice", data := .fields #[.int x tx, .int y ty, .none] }) hd.1 hd.2 e rfl
    simp only [List.append_assoc, List.cons_append, List.nil_append] at this ⊢; exact this
  · refine ⟨[_], _, rfl, ⟨ws, q, rfl, hw⟩, hX _ ⟨_, _, rfl, ?_⟩⟩
    unfold slCut
    rw [List.length_append, List.length_append, List.length_take, List.length_drop]
    omega
  · have := nodup_set (o' := W.listOf (slCut vs ws x.toNat y.toNat).toArray (if (slCut vs ws x.toNat y.toNat).toArray.size == vs.toArray.size then q2 else q2 + 1)) nd2
    simp only [List.append_assoc, List.cons_append, List.nil_append] at this ⊢; exact this
end
section
variable {Z : Wd} {n : Fn} {f : Frm} {σ σ' : St} {k : Nat} {m : List (Str × SV)} {led rest : List SE}
/-- what a state says, another says too -/
def Weak (Z : Wd) (σ σ' : St) : Prop := ∀ f s, At Z f σ s → At Z f σ' s
theorem ex_weak {b : List Stmt} {K : Fl → St → Prop} (h : Weak Z σ σ') (e : ExOk Z n f σ' b K) : ExOk Z n f σ b K := Ev.weak e (h f)
theorem Weak.trans {σ₂ : St} (h : Weak Z σ σ') (h2 : Weak Z σ' σ₂) : Weak Z σ σ₂ := fun f s hs => h2 f s (h f s hs)
theorem Weak.loc {y : Str} {v : SV} (h : m.lookup y = none) : Weak Z ⟨(y, v) :: m, led⟩ ⟨m, led⟩ := by
  rintro f s ⟨h', tk, m', c, e, F, lm, r⟩
  refine ⟨h', tk, m', c, e, F, fun x u hu => lm x u ?_, r⟩
  rw [List.lookup_cons]
  by_cases e : x = y
  · subst e; rw [h] at hu; cases hu
  · rw [beq_eq_false_iff_ne.mpr e]; exact hu
theorem Weak.perm {l l' : List SE} (p : l.Perm l') : Weak Z ⟨m, l⟩ ⟨m, l'⟩ := fun _ _ => At.perm p
theorem Weak.split {l ex r : List SE} (S : Split l ex r) : Weak Z ⟨m, l⟩ ⟨m, ex⟩ := fun _ _ hs => At.drop (At.perm S.perm hs)
theorem Weak.exp {l l' : List SE} (h : ∀ c, Exp Z l c → ∃ c', Exp Z l' c' ∧ c.Perm c') : Weak Z ⟨m, l⟩ ⟨m, l'⟩ := by
  rintro f s ⟨h', tk, m', c, e, F, lm, N, X, nd⟩
  obtain ⟨c', X', p⟩ := h c X
  exact ⟨h', tk, m', c', e, F, lm, news_perm (p.append_right _) N, X', (((p.append_right _).map _).nodup_iff).mp nd⟩
end
section
variable {Z : Wd} {n : Fn} {f : Frm} {σ : St} {k : Nat} {x : Str} {body rest : List Stmt}
theorem nodup_own (h : Heap) : ∀ {fp : List Addr}, fp.Nodup → ((fp.filterMap fun b => (h.get? b).map fun o => (b, o)).map (·.1)).Nodup
  | [], _ => List.nodup_nil
  | b :: r, hn => by
    have hn' := List.nodup_cons.mp hn
    rw [List.filterMap_cons]
    cases hb : h.get? b with
    | none => exact nodup_own h hn'.2
    | some o =>
      refine List.nodup_cons.mpr ⟨fun hm => hn'.1 ?_, nodup_own h hn'.2⟩
      obtain ⟨q, hq, e⟩ := List.mem_map.mp hm
      obtain ⟨c, hc, e2⟩ := List.mem_filterMap.mp hq
      obtain ⟨o', _, rfl⟩ := Option.map_eq_some_iff.mp e2
      exact (show c = b from e) ▸ hc
/-- the turns of a loop whose own objects (fp) lie apart from the ledger -/
theorem loop_at (O : Ok Z n f k) {I : Addr} {fp wr : List Addr} {N : Nat} {P : Nat → Value → Prop} {T : Nat → Heap → Prop} {V : Nat → SV} {J : Nat → St → Prop} {R : Flow → Shared → Prop}
    (W : Walks Z.prog Z.w (n.A f) I fp wr N P T) (hfp : fp.Nodup) (hT : ∀ i h, T i h → ∀ b ∈ fp, ∃ o, h.get? b = some o) (hLf : f.L ∉ fp) (hh : ∀ b ∈ fp, f.h₀.get? b = none) (hV : ∀ i v, P i v → (V i).is v)
    {h : Heap} {tk : Nat} {m : Str → Option Value} {c : List (Addr × Obj)} (h0 : T 0 h) (F : Fr f.h₀ f.L h m) (lm : LocIs σ.m m) (Nw : News f.h₀ f.L h (c ++ f.own)) (X : Exp Z σ.led c) (nd : ((c ++ f.own).map (·.1)).Nodup) (hoff : ∀ q ∈ c ++ f.own, q.1 ∉ fp) (hj : J 0 σ)
    (turn : ∀ i τ own, i < N → Ok Z n { f with own := own } k → J i τ → ExOk Z n { f with own := own } ⟨(x, V i) :: τ.m, τ.led⟩ body fun fl τ' => (fl = .next ∨ fl = .cont) ∧ J (i + 1) τ')
    (done : ∀ τ s', J N τ → At Z f τ s' → R .next s') : LoopAtV Z.prog Z.w (n.A f) f.h₀ (n.env f) x body R (fun _ _ => False) (.ref I) { f.sh with heap := h, toks := tk } := by
  refine ⟨I, fp, wr, N, P, T, m, c ++ f.own, fun i m₁ news₁ => (∀ q ∈ news₁, q.1 ∉ fp) ∧ ∃ τ c₁, J i τ ∧ LocIs τ.m m₁ ∧ news₁ = c₁ ++ f.own ∧ Exp Z τ.led c₁ ∧ ((c₁ ++ f.own).map (·.1)).Nodup, rfl, W, hLf, fun b hb => hh b (W.sub b hb), fun q hq hw => hoff q hq (W.sub _ hw), h0, F, Nw, ⟨hoff, σ, c, hj, lm, rfl, X, nd⟩, ?_, ?_⟩
  · rintro i v m₁ news₁ s₁ own ⟨h₁, tk₁, rfl⟩ hi hP ⟨hno, τ, c₁, hJ, lm₁, rfl, X₁, nd₁⟩ _ hown hget hall hT' F₁ N₁
    have hob := hT _ _ hT'
    let own2 : List (Addr × Obj) := fp.filterMap fun b => (h₁.get? b).map fun o => (b, o)
    have hmem : ∀ q, q ∈ own2 ↔ q.1 ∈ fp ∧ h₁.get? q.1 = some q.2 := fun q => by
      show q ∈ (fp.filterMap fun b => (h₁.get? b).map fun o => (b, o)) ↔ _
      rw [List.mem_filterMap]
      constructor
      · rintro ⟨b, hb, e⟩
        obtain ⟨o, ho, rfl⟩ := Option.map_eq_some_iff.mp e
        exact ⟨hb, ho⟩
      · rintro ⟨hb, ho⟩
        exact ⟨q.1, hb, by rw [ho]; rfl⟩
    have hnd2 : (own2.map (·.1)).Nodup := nodup_own h₁ hfp
    have hin : ∀ q, q ∈ own ↔ q ∈ own2 := fun q => by
      rw [hmem]
      exact ⟨fun hq => ⟨hown q hq, hget q hq⟩, fun hq => hall q.1 hq.1 (hh _ hq.1) q.2 hq.2⟩
    have N2 : News f.h₀ f.L h₁ (c₁ ++ (own2 ++ f.own)) := fun q hq => N₁ q (by
      simp only [List.mem_append] at hq ⊢
      rcases hq with hq | hq | hq
      · exact .inr (.inl hq)
      · exact .inl ((hin q).mpr hq)
      · exact .inr (.inr hq))
    have nd2 : ((c₁ ++ (own2 ++ f.own)).map (·.1)).Nodup := by
      have e : (c₁ ++ (own2 ++ f.own)).Perm (own2 ++ (c₁ ++ f.own)) := by
        rw [← List.append_assoc, ← List.append_assoc]; exact List.perm_append_comm.append_right _
      refine ((e.map _).nodup_iff).mpr ?_
      rw [List.map_append]
      refine List.nodup_append.mpr ⟨hnd2, nd₁, fun a ha b hb e => ?_⟩
      obtain ⟨q, hq, rfl⟩ := List.mem_map.mp ha
      obtain ⟨q', hq', rfl⟩ := List.mem_map.mp hb
      exact hno q' hq' (e ▸ ((hmem q).mp hq).1)
    have hA : At Z { f with own := own2 ++ f.own } ⟨(x, V i) :: τ.m, τ.led⟩ _ := ⟨h₁, tk₁, _, c₁, rfl, F₁, locIs_cons lm₁ (hV i v hP), N2, X₁, nd2⟩
    refine turn i τ (own2 ++ f.own) hi ⟨O.B, O.X, O.T, O.fk, O.dp, O.un⟩ hJ _ _ (fun fl τ' hk fl' s' hf hs' => ?_) _ hA
    have fin : LoopStepU f.h₀ f.L wr own (fun m₁ news₁ => (∀ q ∈ news₁, q.1 ∉ fp) ∧ ∃ τ c₁, J (i + 1) τ ∧ LocIs τ.m m₁ ∧ news₁ = c₁ ++ f.own ∧ Exp Z τ.led c₁ ∧ ((c₁ ++ f.own).map (·.1)).Nodup) { f.sh with heap := h₁, toks := tk₁ } .next s' := by
      obtain ⟨h2, tk2, m2, c2, rfl, F2, lm2, N3, X2, nd3⟩ := hs'
      have hno2 : ∀ q ∈ c2 ++ f.own, q.1 ∉ fp := fun q hq hf => by
        have e : (c2 ++ (own2 ++ f.own)).Perm (own2 ++ (c2 ++ f.own)) := by
          rw [← List.append_assoc, ← List.append_assoc]; exact List.perm_append_comm.append_right _
        have := ((e.map (·.1)).nodup_iff).mp nd3
        rw [List.map_append] at this
        obtain ⟨o, ho⟩ := hob q.1 hf
        exact (List.nodup_append.mp this).2.2 q.1 (List.mem_map.mpr ⟨(q.1, o), (hmem _).mpr ⟨hf, ho⟩, rfl⟩) q.1 (List.mem_map.mpr ⟨q, hq, rfl⟩) rfl
      refine ⟨rfl, h2, tk2, m2, c2 ++ f.own, rfl, F2, fun q hq => N3 q ?_, fun q hq hw => hno2 q hq (W.sub _ hw), hno2, τ', c2, hk.2, lm2, rfl, X2, ?_⟩
      · simp only [List.mem_append] at hq ⊢
        rcases hq with hq | hq | hq
        · exact .inr (.inl ((hin q).mp hq))
        · exact .inl hq
        · exact .inr (.inr hq)
      · exact ((((List.sublist_append_right own2 f.own).append_left c2).map _).nodup nd3)
    rcases hk.1 with rfl | rfl
    · cases hf; exact fin
    · cases hf; exact fin
  · rintro h' tk' m' news' F' N' _ ⟨_, τ, c', hJ, lm', rfl, X', nd'⟩
    exact done τ _ hJ ⟨h', tk', m', c', rfl, F', lm', N', X', nd'⟩
theorem At.take {m : List (Str × SV)} {e : SE} {led : List SE} {s : Shared} (hs : At Z f ⟨m, e :: led⟩ s) : At Z f ⟨m, led⟩ s :=
  At.drop (ex := led) (rest := [e]) (At.perm (List.perm_append_comm (l₁ := [e])) hs)
theorem ex_forL {it : Expr} {px pos : Pos} {K : Fl → St → Prop} (O : Ok Z n f k) (hx : n.cs.names.lookup x = some .local)
    (hit : EvOk Z n f σ it fun v σ0 => ∃ (l : Addr) (vs : List SV) (σ1 : St) (J : Nat → St → Prop), v = .ref l ∧ Weak Z σ0 ⟨σ1.m, .list l vs :: σ1.led⟩ ∧ J 0 σ1 ∧
      (∀ i u τ g, vs[i]? = some u → Ok Z n g k → J i τ → ExOk Z n g ⟨(x, u) :: τ.m, τ.led⟩ body fun fl τ' => (fl = .next ∨ fl = .cont) ∧ J (i + 1) τ') ∧ ∀ τ, J vs.length τ → ExOk Z n f τ rest K)
    (hf : ∀ v, foldedSetIterable it (n.env f) v = pure v := by intro _; rfl) : ExOk Z n f σ (.For (.Name x px) it body [] pos :: rest) K := by
  refine ex_step fun R E hR s hs => wpAny_mono (Q := R) (E := fun _ _ => False) (For_invV f.h₀ hx ?_ (hit _ _ (fun v σ0 hk v' s1 hv hs1 => ?_) s hs) hf .never) (fun _ _ h => h) fun _ _ h => h.elim
  · show (n.cs.kind == .class || (n.cs.kind == .module && f.L != mainGlobals)) = false
    rw [O.fk]; rfl
  · obtain ⟨l, vs, σ1, J, rfl, T, hj, turn, done⟩ := hk
    cases hv
    have hs2 : At Z f ⟨σ1.m, .list l vs :: σ1.led⟩ s1 := T f s1 hs1
    have hs3 := At.take hs2
    obtain ⟨h, tk, m, c, rfl, F, lm, N, ⟨c1, c2, rfl, ⟨vs', q, rfl, hv⟩, X⟩, nd⟩ := hs2
    have hl : h.get? l = some (W.listOf vs'.toArray q) := N.get (by simp)
    have hil : h.IsList l vs'.toArray := ⟨_, hl, rfl, q, rfl⟩
    have hlt : l < h.objs.size := Heap.lt_size hl
    have hne : l ≠ h.objs.size := Nat.ne_of_lt hlt
    have hnl := N (l, W.listOf vs'.toArray q) (by simp)
    refine wpAny_pyIter_list hil ?_
    have Wk := Walks.list (prog := Z.prog) (w := Z.w) (A := n.A f) rfl h.objs.size l hne vs'.toArray
    have hlen : vs'.toArray.size = vs.length := by rw [List.size_toArray, vsAre_len hv]
    rw [hlen] at Wk
    have ge : ∀ b o, h.get? b = some o → (h.push { cls := .type "list_iterator", data := .fields #[.ref l, .int 0 0] }).get? b = some o := fun _ _ e => Heap.get?_push_of_some _ e
    have nd1 := List.nodup_cons.mp nd
    refine loop_at (σ := σ1) (V := fun i => (vs[i]?).getD .none) (J := J) O Wk (by simp; exact Ne.symm hne) (fun i h' hT b hb => ?_) ?_ (fun b hb => ?_) (fun i v hP => ?_) ⟨⟨_, Heap.get?_push_size _ rfl, rfl, rfl⟩, hil.at fun o e => ge _ _ e⟩ (F.push _) lm (fun q hq => ?_) X nd1.2 (fun q hq hm => ?_) hj (fun i τ g hi O' hJ => ?_) (fun τ s' hJ hs' => ?_)
    · rcases List.mem_cons.mp hb with rfl | hb
      · obtain ⟨o, ho, _⟩ := hT.1; exact ⟨o, ho⟩
      · cases List.mem_singleton.mp hb; obtain ⟨o, ho, _⟩ := hT.2; exact ⟨o, ho⟩
    · intro hm
      rcases List.mem_cons.mp hm with e | hm
      · exact absurd F.ns.lt (e ▸ Nat.lt_irrefl _)
      · exact hnl.2.1 (List.mem_singleton.mp hm).symm
    · rcases List.mem_cons.mp hb with rfl | hb
      · exact next_is_new F
      · cases List.mem_singleton.mp hb; exact hnl.2.2
    · obtain ⟨u, h1, h2⟩ : ∃ u, vs[i]? = some u ∧ u.is v := by
        have hP' : vs'[i]? = some v := by simpa using hP
        have hi : i < vs.length := by rw [← vsAre_len hv]; exact (List.getElem?_eq_some_iff.mp hP').1
        obtain ⟨v', h3, h4⟩ := vsAre_get hv (List.getElem?_eq_getElem hi)
        rw [hP'] at h3; cases h3
        exact ⟨_, List.getElem?_eq_getElem hi, h4⟩
      rw [h1]; exact h2
    · have := N q (List.mem_cons_of_mem _ hq)
      exact ⟨ge _ _ this.1, this.2⟩
    · rcases List.mem_cons.mp hm with e | hm
      · exact absurd (Heap.lt_size (N q (List.mem_cons_of_mem _ hq)).1) (e ▸ Nat.lt_irrefl _)
      · exact nd1.1 (List.mem_singleton.mp hm ▸ List.mem_map.mpr ⟨q, hq, rfl⟩)
    · exact turn i _ τ _ (by rw [List.getElem?_eq_getElem hi]; rfl) O' hJ
    · exact hR .next τ (done τ hJ) _ _ rfl hs'
end
section
variable {prog : Program} {w : World} {A : Around} {E : Value → Shared → Prop} {s : Shared} {h₀ : Heap} {L d : Addr} {m : Str → Option Value} {news : List (Addr × Obj)} {o : Obj} {kvs : List (Int × Value)} {Q : Value → Shared → Prop}
theorem sorted_keys (hh : A.handled = none) (F : Fr h₀ L s.heap m) (N : News h₀ L s.heap news) (hm : (d, o) ∈ news) (hd : o.IsDictOf (PySem.intKind prog w) kvs) (lo : (d == sysModules) = false) (h64 : kvs.length < 64)
    (h : ∀ B vs ns c h' tk, Fr h₀ L h' m → News h₀ L h' ((B, W.listOf (List.toArray vs) c) :: news) → (∀ q ∈ news, q.1 < B) → IntsAre vs ns → ns.Perm (kvs.map (·.1)) → ns.Pairwise (· ≤ ·) → Q (.ref B) { s with heap := h', toks := tk }) :
    wpAny (model prog w) A (call (.builtin "sorted") [.ref d]) Q E s := by
  obtain ⟨ep, hat⟩ := (kda_dict N hm hd).dictAt
  refine kdu_sorted (kdl_dict (knd := PySem.intKind prog w) (kvs := kvs) (ep := ep) lo) hh F N hat (kdl_size (by omega)) fun B h' tk vs F' N' l1 hl hv => ?_
  have hI : IntsAre vs (kvs.map (·.1)) := kdy_ints (by rw [hl, List.length_map]) fun j v hvj => by
    obtain ⟨k, x, hx, hk⟩ := hv j v hvj
    obtain ⟨t, rfl⟩ := Value.isInt_shape hk
    exact ⟨k, by rw [List.getElem?_map, hx]; rfl, t, rfl⟩
  refine ksk_lsort (D := B) (its := vs.toArray) (n := 0) (news' := fun o => (B, o) :: news) F' N' (fun o => Upd.head fun p hp => Nat.ne_of_lt (l1 p hp)) (by simp) hI (by simp; omega) fun vs' ns' c h'' F'' N'' i1 i2 i3 i4 _ => ?_
  exact h B vs' ns' c h'' tk F'' N'' l1 i1 i3 i4
end
theorem RowsL.any {kvs l : List (Int × Value)} (R : RowsL kvs l) (k : Int) : (kvs.any fun kv => decide (kv.1 = k)) = true ↔ k ∈ l.map (·.1) := by
  rw [List.any_eq_true]
  constructor
  · rintro ⟨q, hq, e⟩
    exact List.mem_map.mpr ⟨q, R.perm.mem_iff.mp hq, by simpa using e⟩
  · intro h
    obtain ⟨q, hq, e⟩ := List.mem_map.mp h
    exact ⟨q, R.perm.mem_iff.mpr hq, by simpa using e⟩
theorem RowsL.new {kvs l : List (Int × Value)} (R : RowsL kvs l) {k : Int} {v : Value} (h : k ∉ l.map (·.1)) : RowsL (stored kvs k v) ((k, v) :: l) := by
  unfold stored
  rw [if_neg (fun h' => h ((R.any k).mp h'))]
  refine ⟨?_, ?_⟩
  · exact (List.perm_append_singleton _ _).trans (R.perm.cons _)
  · rw [List.map_cons]; exact List.nodup_cons.mpr ⟨h, R.nums⟩
theorem fst_inj {l : List (Int × Value)} (hn : (l.map (·.1)).Nodup) {p q : Int × Value} (hp : p ∈ l) (hq : q ∈ l) (e : p.1 = q.1) : p = q := by
  induction l with
  | nil => cases hp
  | cons a r ih =>
    rw [List.map_cons] at hn
    have hn' := List.nodup_cons.mp hn
    rcases List.mem_cons.mp hp with rfl | hp2 <;> rcases List.mem_cons.mp hq with rfl | hq2
    · rfl
    · exact absurd (List.mem_map.mpr ⟨q, hq2, e.symm⟩) hn'.1
    · exact absurd (List.mem_map.mpr ⟨p, hp2, e⟩) hn'.1
    · exact ih hn'.2 hp2 hq2
theorem RowsL.old {kvs l : List (Int × Value)} (R : RowsL kvs l) {k : Int} {v : Value} (h : (k, v) ∈ l) : RowsL (stored kvs k v) l := by
  unfold stored
  rw [if_pos ((R.any k).mpr (List.mem_map.mpr ⟨_, h, rfl⟩))]
  have : kvs.map (fun kv => if kv.1 = k then (kv.1, v) else kv) = kvs := by
    conv => rhs; rw [← List.map_id kvs]
    refine List.map_congr_left fun q hq => ?_
    by_cases e : q.1 = k
    · rw [if_pos e]
      have := fst_inj R.nums (R.perm.mem_iff.mp hq) h e
      subst this; rfl
    · rw [if_neg e]; rfl
  rw [this]; exact R
theorem RowsL.drop {kvs l : List (Int × Value)} {k : Int} {v : Value} (R : RowsL kvs ((k, v) :: l)) : RowsL (without kvs k) l := by
  have hn := R.nums
  rw [List.map_cons] at hn
  have hn' := List.nodup_cons.mp hn
  refine ⟨?_, hn'.2⟩
  unfold without
  refine (R.perm.filter _).trans ?_
  rw [List.filter_cons_of_neg (by simp)]
  refine List.Perm.of_eq (List.filter_eq_self.mpr fun q hq => ?_)
  have : q.1 ≠ k := fun e => hn'.1 (e ▸ List.mem_map.mpr ⟨q, hq, rfl⟩)
  simpa using this
section
variable {Z : Wd} {n : Fn} {f : Frm} {σ : St} {k j : Nat} {e o : Expr} {x : Str} {p pos : Pos} {v : SV} {a : Addr} {led' : List SE}
theorem At.upd1 {e e2 : SE} (U : UpdE e e2 σ.led led') (h1 : ∀ c1, e.is Z c1 → ∃ o, c1 = [(a, o)]) {s : Shared} (hs : At Z f σ s) : ∃ m pre o post, Fr f.h₀ f.L s.heap m ∧ News f.h₀ f.L s.heap (pre ++ (a, o) :: post) ∧ (∀ q ∈ pre, q.1 ≠ a) ∧ (∀ q ∈ post, q.1 ≠ a) ∧ e.is Z [(a, o)] ∧
    ∀ h' tk' o', Fr f.h₀ f.L h' m → News f.h₀ f.L h' (pre ++ (a, o') :: post) → e2.is Z [(a, o')] → At Z f ⟨σ.m, led'⟩ { s with heap := h', toks := tk' } := by
  obtain ⟨h, tk, m, c, rfl, F, lm, N, X, nd⟩ := hs
  obtain ⟨pre, c1, post, rfl, hc, hX⟩ := U.exp X
  obtain ⟨o, rfl⟩ := h1 _ hc
  simp only [List.append_assoc, List.cons_append, List.nil_append] at N nd hX
  have hd := upd_of nd
  exact ⟨m, pre, o, post ++ f.own, F, N, hd.1, hd.2, hc, fun h' tk' o' F' N' he => ⟨h', tk', m, pre ++ (a, o') :: post, rfl, F', lm, by simp only [List.append_assoc, List.cons_append]; exact N', hX _ he, by simp only [List.append_assoc, List.cons_append]; exact nodup_set nd⟩⟩
theorem rows_one {l : List (Int × Addr)} (c1 : List (Addr × Obj)) (h : (SE.rows a l).is Z c1) : ∃ o, c1 = [(a, o)] := by obtain ⟨o, _, e, _⟩ := h; exact ⟨o, e⟩
theorem list_one {l : List SV} (c1 : List (Addr × Obj)) (h : (SE.list a l).is Z c1) : ∃ o, c1 = [(a, o)] := by obtain ⟨_, _, e, _⟩ := h; exact ⟨_, e⟩
theorem pair_inj {a : Addr} {o o' : Obj} (h : [(a, o)] = [(a, o')]) : o = o' := by cases h; rfl
theorem rowsL_len {kvs l : List (Int × Value)} (R : RowsL kvs l) : kvs.length = l.length := R.perm.length_eq
theorem as_row {K : St → Prop} {i : Expr} {R : Addr} {l l' : List (Int × Addr)} {q : Int} (O : Ok Z n f k) (ho : PE n σ o (.ref R)) (hi : PE n σ i (.int q)) (U : UpdE (.rows R l) (.rows R l') σ.led led') (hl : ((q, a) ∈ l ∧ l' = l) ∨ (q ∉ l.map (·.1) ∧ l' = (q, a) :: l)) (hz : l.length ≤ 1000) (hK : K ⟨σ.m, led'⟩) :
    AsOk Z n f σ (.Subscript o i pos) (.ref a) K := by
  refine fun v' hv R' E hR s hs => kas_sub (ho.sound O (fun o' s1 hao hs1 => hi.sound O (fun i' s2 hai hs2 => ?_) hs1) hs)
  cases hv
  cases hao
  obtain ⟨t, rfl⟩ := hai
  obtain ⟨m, pre, ob, post, F, N, d1, d2, ⟨ob', kvs, e, hd, hr, hsys⟩, back⟩ := At.upd1 U rows_one hs2
  cases pair_inj e
  have hlen := rowsL_len hr
  rw [List.length_map] at hlen
  refine kda_set F N (updF_mk d1 d2) hd (intKind_is _ _ _ _) (by rw [sizeLine_eq]; omega) fun h' o' F' N' hd' => hR () _ hK _ _ rfl (back _ _ o' F' N' ⟨o', _, rfl, hd', ?_, hsys⟩)
  rcases hl with ⟨hm, rfl⟩ | ⟨hm, rfl⟩
  · exact hr.old (List.mem_map.mpr ⟨_, hm, rfl⟩)
  · refine hr.new ?_
    rw [List.map_map]
    exact hm
theorem ev_pop {K : SV → St → Prop} {i : Expr} {R : Addr} {l l0 : List (Int × Addr)} {q : Int} {ap : Pos} {pl : Sem Bool} (O : Ok Z n f k) (ho : PE n σ o (.ref R)) (hi : PE n σ i (.int q)) (U : UpdE (.rows R l0) (.rows R l) σ.led led') (hl : l0.Perm ((q, a) :: l)) (hz : l0.length ≤ 1000) (hK : K (.ref a) ⟨σ.m, led'⟩)
    (hc : eval (.Call (.Attribute o (Str.ofString "pop") ap) [i] [] pos) (n.env f) = (do
      let ov ← eval o (n.env f)
      standAt ap.atName
      let (fx, first) ← holding [ov] (getMethod ov (Str.ofString "pop") pl)
      callWith pos fx first (backTo pos (starEach [i] (n.env f))) []) := by with_unfolding_all rfl) : EvOk Z n f σ (.Call (.Attribute o (Str.ofString "pop") ap) [i] [] pos) K := by
  intro R' E hR s hs
  refine MethodCall_ (ho.sound O (fun o' s1 hao hs1 => ?_) hs) hc
  cases hao
  obtain ⟨m, pre, ob, post, F, N, d1, d2, ⟨ob', kvs, e, hd, hr, hsys⟩, back⟩ := At.upd1 U rows_one hs1
  cases pair_inj e
  refine kob_method (knd := PySem.intKind _ _) PySem.F.slot_dict_pop PySem.F.type_dict_pop N (by simp) hd ?_
  refine callWith_method1 (args_cons (hi.sound O (fun i' s2 hai hs2 => args_nil ?_) hs1) (hi.star _ _)) (hi.star _ _)
  obtain ⟨t, rfl⟩ := hai
  obtain ⟨m, pre, ob, post, F, N, d1, d2, ⟨ob', kvs, e, hd, hr, hsys⟩, back⟩ := At.upd1 U rows_one hs2
  cases pair_inj e
  have hr' : RowsL kvs ((q, Value.ref a) :: l.map fun q => (q.1, Value.ref q.2)) := ⟨hr.perm.trans (hl.map _), ((hl.map fun q => (q.1, Value.ref q.2)).map (·.1)).nodup_iff.mp hr.nums⟩
  have hlen := rowsL_len hr
  rw [List.length_map] at hlen
  exact kob_pop (knd := PySem.intKind _ _) (more := []) F N (updF_mk d1 d2) hd (intKind_is _ _ _ _) (.inl rfl) rfl (PySem.F.args_dict_pop_2 _ _) (hr'.at (.head _)) (by rw [sizeLine_eq]; omega) fun h' o' F' N' hd' => hR _ _ hK _ _ rfl (back _ _ o' F' N' ⟨o', _, rfl, hd', hr'.drop, hsys⟩)
theorem ev_sorted {K : SV → St → Prop} {R : Addr} {l : List (Int × Addr)} (O : Ok Z n f k) (hx : n.cs.names.lookup (Str.ofString "sorted") = some .globalImplicit) (ho : PE n σ o (.ref R)) (hm : .rows R l ∈ σ.led) (hz : l.length < 64)
    (hK : ∀ (D : Addr) (ns : List Int), ns.Perm (l.map (·.1)) → ns.Pairwise (· ≤ ·) → K (.ref D) ⟨σ.m, .list D (ns.map .int) :: σ.led⟩) : EvOk Z n f σ (.Call (.Name (Str.ofString "sorted") p) [o] [] pos) K := by
  refine fun R' E hR s hs => Call_ (nameBuilt O hx (by decide) hs ?_)
  refine callWith_builtin1 (args_cons (ho.sound O (fun a s1 ha hs1 => args_nil ?_) hs) (ho.star _ _)) (ho.star _ _)
  cases ha
  obtain ⟨h, tk, m, c, rfl, F, lm, N, X, nd⟩ := hs1
  obtain ⟨pre, c1, post, rfl, o, kvs, rfl, h1, h2, h3⟩ := Exp.mem hm X
  have hlen := rowsL_len h2
  rw [List.length_map] at hlen
  refine sorted_keys rfl F N (by simp) h1 h3 (by omega) fun B vs ns c h' tk F' N' l1 hI hP hS => hR _ _ (hK B ns ?_ hS) _ _ rfl (At.new F' lm N' l1 ⟨_, _, rfl, vsAre_ofInts hI⟩ X nd)
  refine hP.trans ((h2.perm.map (·.1)).trans ?_)
  rw [List.map_map]
  exact .refl _
theorem meth_list {name : Str} {id : String} {i : Expr} {D : Addr} {vs : List SV} {ap : Pos} {pl : Sem Bool} {args : List Expr} {K : SV → St → Prop} (O : Ok Z n f k) (slot : Slot "list" name id) (ty : typeOf (.builtin id) = pure (.type "method_descriptor")) (ho : PE n σ o (.ref D)) (hm : .list D vs ∈ σ.led) (hn : noStar (i :: args) = true)
    (h : ArgsOk Z n f σ (i :: args) fun us σ1 => CallOk Z n f σ1 (.builtin id) (.ref D :: us) K)
    (hc : eval (.Call (.Attribute o name ap) (i :: args) [] pos) (n.env f) = (do
      let ov ← eval o (n.env f)
      standAt ap.atName
      let (fx, first) ← holding [ov] (getMethod ov name pl)
      callWith pos fx first (backTo pos (starEach (i :: args) (n.env f))) []) := by with_unfolding_all rfl) : EvOk Z n f σ (.Call (.Attribute o name ap) (i :: args) [] pos) K := by
  intro R' E hR s hs
  refine MethodCall_ (ho.sound O (fun o' s1 hao hs1 => ?_) hs) hc
  cases hao
  have hs2 := hs1
  obtain ⟨h', tk, m, c, rfl, F, lm, N, X, nd⟩ := hs1
  obtain ⟨pre, c1, post, rfl, vs', q, rfl, hv⟩ := Exp.mem hm X
  refine kl_method (its := vs'.toArray) (n := q) N (by simp) slot ty ?_
  obtain ⟨he, hr⟩ := noStar_cons hn (n.env f)
  exact callWith_method1 (h pos _ E (fun us σ1 hk us' s3 hus hs3 => hk _ ⟨_, _, rfl, rfl, hus⟩ R' E hR s3 hs3) _ hs2) he (noStar_any hr)
theorem call_append {K : SV → St → Prop} {D : Addr} {vs : List SV} (U : UpdE (.list D vs) (.list D (vs ++ [v])) σ.led led') (hz : vs.length ≤ 1000) (hK : K .none ⟨σ.m, led'⟩) : CallOk Z n f σ (.builtin "list.append") [.ref D, v] K := by
  rintro _ ⟨_, _, rfl, rfl, v', _, rfl, hv, rfl⟩ R E hR s hs
  obtain ⟨m, pre, ob, post, F, N, d1, d2, ⟨vs', q, e, hvs⟩, back⟩ := At.upd1 U list_one hs
  cases pair_inj e
  refine append_K F N (upd_mk d1 d2) (fun h' F' N' => hR _ _ hK _ _ rfl (back _ _ _ F' N' ⟨vs' ++ [v'], _, by simp; rfl, vsAre_app.mpr ⟨_, _, rfl, hvs, ⟨_, _, rfl, hv, rfl⟩⟩⟩)) (by rw [List.size_toArray, vsAre_len hvs, sizeLine_eq]; omega)
theorem call_insert0 {K : SV → St → Prop} {D : Addr} {vs : List SV} (U : UpdE (.list D vs) (.list D (v :: vs)) σ.led led') (hz : vs.length ≤ 1000) (hK : K .none ⟨σ.m, led'⟩) : CallOk Z n f σ (.builtin "list.insert") [.ref D, .int 0, v] K := by
  rintro _ ⟨_, _, rfl, rfl, _, _, rfl, ⟨t, rfl⟩, v', _, rfl, hv, rfl⟩ R E hR s hs
  obtain ⟨m, pre, ob, post, F, N, d1, d2, ⟨vs', q, e, hvs⟩, back⟩ := At.upd1 U list_one hs
  cases pair_inj e
  refine kl_insert (l := v' :: vs') F N (by decide) (by simp [kl_ins]) (upd_mk d1 d2) (by rw [List.toList_toArray, vsAre_len hvs, sizeLine_eq]; omega) fun h' F' N' => hR _ _ hK _ _ rfl (back _ _ _ F' N' ⟨v' :: vs', _, rfl, ⟨_, _, rfl, hv, hvs⟩⟩)
end
section
variable {Z : Wd} {n : Fn} {f : Frm} {σ σ' : St} {k : Nat} {m : List (Str × SV)} {led rest : List SE}
theorem Weak.rows {l l' : List (Int × Addr)} {R : Addr} (p : l.Perm l') (T : Take (.rows R l) led rest) : Weak Z ⟨m, led⟩ ⟨m, .rows R l' :: rest⟩ := by
  refine Weak.trans (Weak.perm T.perm) (Weak.exp ?_)
  rintro c ⟨c1, c2, rfl, ⟨o, kvs, rfl, h1, h2, h3⟩, X⟩
  exact ⟨_, ⟨[(R, o)], c2, rfl, ⟨o, kvs, rfl, h1, ⟨h2.perm.trans (p.map _), ((p.map fun q => (q.1, Value.ref q.2)).map (·.1)).nodup_iff.mp h2.nums⟩, h3⟩, X⟩, .refl _⟩
theorem marks_app {w : World} {B : Addr} {y : List Mark} : ∀ {x : List Mark} {c : List (Addr × Obj)}, MarksAre w B (x ++ y) c ↔ ∃ c1 c2, c = c1 ++ c2 ∧ MarksAre w B x c1 ∧ MarksAre w B y c2
  | [], c => ⟨fun h => ⟨[], c, rfl, rfl, h⟩, by rintro ⟨c1, c2, e, h1, h2⟩; rw [e, show c1 = [] from h1]; exact h2⟩
  | q :: x, c => by
    constructor
    · rintro ⟨c1, c2, rfl, h1, h2⟩
      obtain ⟨c3, c4, rfl, h3, h4⟩ := marks_app.mp h2
      exact ⟨c1 ++ c3, c4, by rw [List.append_assoc], ⟨c1, c3, rfl, h1, h3⟩, h4⟩
    · rintro ⟨c1, c2, rfl, ⟨c3, c4, rfl, h3, h4⟩, h2⟩
      exact ⟨c3, c4 ++ c2, by rw [List.append_assoc], h3, marks_app.mpr ⟨c4, c2, rfl, h4, h2⟩⟩
abbrev markE (a : Addr) (num : Int) (b : SV) (pos : Int) : SE := .obj a 114 [(Str.ofString "number", .int num), (Str.ofString "advances", .bool false), (Str.ofString "buffer", b), (Str.ofString "position", .int pos)]
theorem perm_mid {α : Type} (a b c : List α) : (a ++ b ++ c).Perm (b ++ (a ++ c)) := by rw [← List.append_assoc]; exact List.perm_append_comm.append_right _
/-- one marker out of the many, and back -/
theorem Weak.out {B : Addr} {q : Mark} {x y : List Mark} (T : Take (.marks B (x ++ q :: y)) led rest) : Weak Z ⟨m, led⟩ ⟨m, markE q.a q.num (.ref B) q.pos :: .marks B (x ++ y) :: rest⟩ := by
  refine Weak.trans (Weak.perm T.perm) (Weak.exp ?_)
  rintro c ⟨c1, c2, rfl, h, X⟩
  obtain ⟨c3, c4, rfl, h1, ⟨c5, c6, rfl, h2, h3⟩⟩ := marks_app.mp h
  refine ⟨c5 ++ ((c3 ++ c6) ++ c2), ⟨c5, _, rfl, h2, ⟨_, c2, rfl, marks_app.mpr ⟨c3, c6, rfl, h1, h3⟩, X⟩⟩, ?_⟩
  have := (perm_mid c3 c5 c6).append_right c2
  simp only [List.append_assoc] at this ⊢; exact this
theorem Weak.inn {B : Addr} {q : Mark} {x y : List Mark} {rest2 : List SE} (T : Take (markE q.a q.num (.ref B) q.pos) led rest) (T2 : Take (.marks B (x ++ y)) rest rest2) : Weak Z ⟨m, led⟩ ⟨m, .marks B (x ++ q :: y) :: rest2⟩ := by
  refine Weak.trans (Weak.perm (T.perm.trans (T2.perm.cons _))) (Weak.exp ?_)
  rintro c ⟨c5, c2, rfl, h2, ⟨c1, c7, rfl, h, X⟩⟩
  obtain ⟨c3, c6, rfl, h1, h3⟩ := marks_app.mp h
  refine ⟨(c3 ++ (c5 ++ c6)) ++ c7, ⟨_, c7, rfl, marks_app.mpr ⟨c3, c5 ++ c6, rfl, h1, ⟨c5, c6, rfl, h2, h3⟩⟩, X⟩, ?_⟩
  have := (perm_mid c3 c5 c6).symm.append_right c7
  simp only [List.append_assoc] at this ⊢; exact this
theorem marks_perm {w : World} {B : Addr} {l l' : List Mark} (p : l.Perm l') : ∀ {c : List (Addr × Obj)}, MarksAre w B l c → ∃ c', MarksAre w B l' c' ∧ c.Perm c' := by
  induction p with
  | nil => exact fun h => ⟨_, h, .refl _⟩
  | cons x _ ih =>
    rintro c ⟨c1, c2, rfl, h1, h2⟩
    obtain ⟨c3, h3, p3⟩ := ih h2
    exact ⟨c1 ++ c3, ⟨c1, c3, rfl, h1, h3⟩, p3.append_left _⟩
  | swap x y l =>
    rintro c ⟨c1, c2, rfl, h1, ⟨c3, c4, rfl, h3, h4⟩⟩
    refine ⟨c3 ++ (c1 ++ c4), ⟨c3, c1 ++ c4, rfl, h3, ⟨c1, c4, rfl, h1, h4⟩⟩, ?_⟩
    rw [← List.append_assoc, ← List.append_assoc]
    exact List.perm_append_comm.append_right _
  | trans _ _ ih1 ih2 =>
    intro c h
    obtain ⟨c1, h1, p1⟩ := ih1 h
    obtain ⟨c2, h2, p2⟩ := ih2 h1
    exact ⟨c2, h2, p1.trans p2⟩
theorem Weak.marks {B : Addr} {l l' : List Mark} (p : l.Perm l') (T : Take (.marks B l) led rest) : Weak Z ⟨m, led⟩ ⟨m, .marks B l' :: rest⟩ := by
  refine Weak.trans (Weak.perm T.perm) (Weak.exp ?_)
  rintro c ⟨c1, c2, rfl, h, X⟩
  obtain ⟨c3, h3, p3⟩ := marks_perm p h
  exact ⟨c3 ++ c2, ⟨c3, c2, rfl, h3, X⟩, p3.append_right _⟩
end
section
variable {Z : Wd} {n : Fn} {f : Frm} {σ : St} {k : Nat} {e : Expr} {p pos : Pos} {rest : List Stmt}
/-- a test that may call -/
def TestOk (Z : Wd) (n : Fn) (f : Frm) (σ : St) (e : Expr) (K : Bool → St → Prop) : Prop := ∀ whole, whole = eval e (n.env f) → EvB Z n f σ (PySem.isTrue e (n.env f) whole) K
theorem tst_te {b : Bool} {K : Bool → St → Prop} (O : Ok Z n f k) (h : TE n σ e b) (hK : K b σ) : TestOk Z n f σ e K := fun _ hw _ _ hR _ hs => h.sound O hw (fun s' hs' => hR b σ hK b s' rfl hs') hs
theorem tst_not {K : Bool → St → Prop} (h : TestOk Z n f σ e fun b σ1 => K (!b) σ1) : TestOk Z n f σ (.UnaryOp .Not e p) K := fun _ _ R E hR s hs => wpAny_isTrue_Not (h _ rfl (fun b s' => R (!b) s') E (fun b σ1 hk b' s' hb hs' => by cases hb; exact hR _ σ1 hk _ _ rfl hs') s hs)
theorem tst_call {fn : Expr} {args : List Expr} {K : Bool → St → Prop} (h : EvOk Z n f σ (.Call fn args [] pos) fun v σ1 => ∃ b, v = .bool b ∧ K b σ1) : TestOk Z n f σ (.Call fn args [] pos) K := by
  intro whole hw R E hR s hs
  subst hw
  refine isTrue_plain (h _ E (fun v σ1 hk v' s' hv hs' => ?_) s hs)
  obtain ⟨b, rfl, hk⟩ := hk
  cases hv
  exact wpAny_truthy_bool (hR b σ1 hk b s' rfl hs')
theorem ex_ifG {t : Expr} {A B : List Stmt} {K : Fl → St → Prop} (h : TestOk Z n f σ t fun b σ1 => (b = true → ExOk Z n f σ1 A (Seq Z n f rest K)) ∧ (b = false → ExOk Z n f σ1 B (Seq Z n f rest K))) : ExOk Z n f σ (.If t A B pos :: rest) K := by
  refine ex_step fun R E hR s hs => wpAny_If (h _ rfl _ E (fun b σ1 hk b' s' hb hs' => ?_) s hs)
  cases hb
  cases b with
  | true => rw [if_pos rfl]; exact hk.1 rfl R E hR s' hs'
  | false => rw [if_neg Bool.false_ne_true]; exact hk.2 rfl R E hR s' hs'
theorem ev_add {l r : Expr} {K : SV → St → Prop} (O : Ok Z n f k) (h : EvOk Z n f σ l fun v σ1 => ∃ i, v = .int i ∧ EvOk Z n f σ1 r fun u σ2 => ∃ j, u = .int j ∧ K (.int (i + j)) σ2) : EvOk Z n f σ (.BinOp l .Add r pos) K := by
  refine fun R E hR s hs => wpAny_BinOp (h _ E (fun v σ1 hk v' s1 hv hs1 => ?_) s hs)
  obtain ⟨i, rfl, hk⟩ := hk
  refine hk _ E (fun u σ2 hk2 u' s2 hu hs2 => ?_) s1 hs1
  obtain ⟨j, rfl, hk2⟩ := hk2
  obtain ⟨t, rfl⟩ := hv
  obtain ⟨t', rfl⟩ := hu
  exact add_int (hR _ _ hk2 _ _ ⟨_, rfl⟩ hs2.tok)
theorem ev_sub {l r : Expr} {K : SV → St → Prop} (O : Ok Z n f k) (h : EvOk Z n f σ l fun v σ1 => ∃ i, v = .int i ∧ EvOk Z n f σ1 r fun u σ2 => ∃ j, u = .int j ∧ K (.int (i - j)) σ2) : EvOk Z n f σ (.BinOp l .Sub r pos) K := by
  refine fun R E hR s hs => wpAny_BinOp (h _ E (fun v σ1 hk v' s1 hv hs1 => ?_) s hs)
  obtain ⟨i, rfl, hk⟩ := hk
  refine hk _ E (fun u σ2 hk2 u' s2 hu hs2 => ?_) s1 hs1
  obtain ⟨j, rfl, hk2⟩ := hk2
  obtain ⟨t, rfl⟩ := hv
  obtain ⟨t', rfl⟩ := hu
  exact sub_int (hR _ _ hk2 _ _ ⟨_, rfl⟩ hs2.tok)
theorem ev_min {l r : Expr} {K : SV → St → Prop} (O : Ok Z n f k) (hx : n.cs.names.lookup (Str.ofString "min") = some .globalImplicit) (hn : noStar [l, r] = true) (h : EvOk Z n f σ l fun v σ1 => ∃ i, v = .int i ∧ EvOk Z n f σ1 r fun u σ2 => ∃ j, u = .int j ∧ K (.int (min i j)) σ2) : EvOk Z n f σ (.Call (.Name (Str.ofString "min") p) [l, r] [] pos) K := by
  refine fun R E hR s hs => Call_ (nameBuilt O hx (by decide) hs ?_)
  obtain ⟨h1, h2⟩ := noStar_cons hn (n.env f)
  refine callWith_builtin1 (args_cons (h _ E (fun v σ1 hk v' s1 hv hs1 => ?_) s hs) h1) h1 (noStar_any h2)
  obtain ⟨i, rfl, hk⟩ := hk
  refine args_cons (hk _ E (fun u σ2 hk2 u' s2 hu hs2 => args_nil ?_) s1 hs1) (noStar_cons h2 _).1
  obtain ⟨j, rfl, hk2⟩ := hk2
  obtain ⟨t, rfl⟩ := hv
  obtain ⟨t', rfl⟩ := hu
  obtain ⟨h, tk, m, c, rfl, F, lm, N, X, nd⟩ := hs2
  exact min_two_N rfl F N fun h' tk' F' N' => hR _ _ hk2 _ _ (by refine ⟨_, congrArg (Value.int · _) ?_⟩; omega) ⟨h', tk', m, c, rfl, F', lm, N', X, nd⟩
theorem call_weak {σ' : St} {fv : Value} {vs : List SV} {K : SV → St → Prop} (h : Weak Z σ σ') (c : CallOk Z n f σ' fv vs K) : CallOk Z n f σ fv vs K := fun vs' hv => Ev.weak (c vs' hv) (h f)
theorem ev_weak {σ' : St} {K : SV → St → Prop} (h : Weak Z σ σ') (c : EvOk Z n f σ' e K) : EvOk Z n f σ e K := Ev.weak c (h f)
theorem tst_orF {l r : Expr} {K : Bool → St → Prop} (O : Ok Z n f k) (h : TE n σ l false) (h2 : TestOk Z n f σ r K) : TestOk Z n f σ (.BoolOp .Or [l, r] pos) K := by
  refine fun _ _ R E hR s hs => isTrue_or (h.sound O rfl (fun s' hs' => ?_) hs)
  rw [if_neg Bool.false_ne_true]
  refine isTrue_or (h2 _ rfl _ E (fun b σ1 hk b' s2 hb hs2 => ?_) s' hs')
  cases hb
  cases b with
  | true => rw [if_pos rfl]; exact hR _ _ hk _ _ rfl hs2
  | false => rw [if_neg Bool.false_ne_true]; exact isTrue_or_nil (hR _ _ hk _ _ rfl hs2)
theorem tst_gt {l r : Expr} {a : Int} {K : Bool → St → Prop} (O : Ok Z n f k) (h : PE n σ l (.int a)) (h2 : EvOk Z n f σ r fun v σ1 => ∃ b, v = .int b ∧ K (decide (b < a)) σ1) (hm : behindInMarks .Gt r = false := by rfl) : TestOk Z n f σ (.Compare l [.Gt] [r] pos) K := by
  refine fun _ _ R E hR s hs => wpAny_isTrue_Compare1 (h.sound O (fun u s1 hu hs1 => h2 _ E (fun v σ1 hk v' s2 hv hs2 => ?_) s1 hs1) hs) hm
  obtain ⟨b, rfl, hk⟩ := hk
  obtain ⟨t, rfl⟩ := hu
  obtain ⟨t', rfl⟩ := hv
  exact gt_int (wpAny_truthy_bool (hR _ _ hk _ _ rfl hs2))
end
section
variable {Z : Wd} {n : Fn} {f : Frm} {σ : St} {k : Nat} {e o : Expr} {p pos tp : Pos} {rest : List Stmt} {args : List Expr} {x y : Str}
theorem ev_tuple {tk : Nat} {K : SV → St → Prop} (h : ArgsOk Z n f σ args fun vs σ1 => vs.length ≤ 1000 ∧ ∀ D, K (.ref D) ⟨σ1.m, .tup D vs :: σ1.led⟩) : EvOk Z n f σ (.Tuple args tk pos) K := by
  refine fun R E hR s hs => Tuple_ (h pos _ E (fun vs σ1 hk vs' s1 hv hs1 => ?_) s hs)
  obtain ⟨h, tk, m, c, rfl, F, lm, N, X, nd⟩ := hs1
  exact newTuple_N F N (fun h' F' N' => hR _ _ (hk.2 _) _ _ rfl (At.new F' lm N' (fun q hq => Heap.lt_size (N q hq).1) ⟨vs', 0, rfl, hv⟩ X nd)) (by rw [vsAre_len hv, sizeLine_eq]; have := hk.1; omega)
def AsAll (Z : Wd) (n : Fn) (f : Frm) : St → List Expr → List SV → (St → Prop) → Prop
  | σ, [], [], K => K σ
  | σ, t :: ts, v :: vs, K => AsOk Z n f σ t v fun σ1 => AsAll Z n f σ1 ts vs K
  | _, _, _, _ => False
theorem as_all {K : St → Prop} {R : Unit → Shared → Prop} {E : Value → Shared → Prop} (hR : ∀ σ', K σ' → ∀ s', At Z f σ' s' → R () s') : ∀ {ts : List Expr} {vs : List SV} {vs' : List Value} {σ : St}, AsAll Z n f σ ts vs K → VsAre vs vs' → ∀ s, At Z f σ s →
    wpAny Z.M (n.A f) (assignInOrder (ts.map fun t => assign t (n.env f)) vs') R E s
  | [], [], _, σ, h, hv, s, hs => by cases hv; exact wpAny_assignInOrder_none (hR σ h s hs)
  | t :: ts, v :: vs, _, σ, h, ⟨v', r, e, hv, hr⟩, s, hs => by
    rw [e]
    exact wpAny_assignInOrder_more (h v' hv _ E (fun _ σ1 hk _ s1 _ hs1 => as_all hR hk hr s1 hs1) s hs)
  | [], _ :: _, _, _, h, _, _, _ => h.elim
  | _ :: _, [], _, _, h, _, _, _ => h.elim
theorem At.isTup {s : Shared} {a : Addr} {vs : List SV} (hs : At Z f σ s) (hm : .tup a vs ∈ σ.led) : ∃ vs', IsTup s.heap a vs'.toArray ∧ VsAre vs vs' := by
  obtain ⟨h, tk, m, c, rfl, F, lm, N, X, nd⟩ := hs
  obtain ⟨pre, c1, post, rfl, vs', q, rfl, hv⟩ := Exp.mem hm X
  exact ⟨vs', N.isTup (n := q) (d := none) (sl := #[]) (by simp), hv⟩
theorem star_none {ts : List Expr} {env : Env} (he : assignEach ts env = ts.map fun t => (false, assign t env)) : (assignEach ts env).findIdx? (·.1) = none ∧ (assignEach ts env).length = ts.length ∧ (assignEach ts env).map (·.2) = ts.map fun t => assign t env := by
  rw [he]
  refine ⟨?_, List.length_map .., ?_⟩
  · rw [List.findIdx?_eq_none_iff]
    intro q hq
    obtain ⟨t, _, rfl⟩ := List.mem_map.mp hq
    rfl
  · rw [List.map_map]; rfl
theorem as_tup {ts : List Expr} {tk : Nat} {T : Addr} {vs : List SV} {K : St → Prop} (hm : .tup T vs ∈ σ.led) (hl : ts.length = vs.length) (h : AsAll Z n f σ ts vs K) (he : assignEach ts (n.env f) = ts.map fun t => (false, assign t (n.env f)) := by rfl) : AsOk Z n f σ (.Tuple ts tk pos) (.ref T) K := by
  intro v' hv R E hR s hs
  cases hv
  obtain ⟨vs', ht, hvs⟩ := hs.isTup hm
  obtain ⟨g1, g2, g3⟩ := star_none he
  obtain ⟨h', tk, m, c, rfl, F, lm, N, X, nd⟩ := hs
  refine unpackN_ F N ht rfl (by rw [g2, hl, List.size_toArray, vsAre_len hvs]) g1 fun h2 F' N' => ?_
  rw [g3]
  exact as_all (fun σ' hk s' hs' => hR () σ' hk () s' rfl hs') h hvs _ ⟨h2, tk, m, c, rfl, F', lm, N', X, nd⟩
theorem as_lst {ts : List Expr} {tk : Nat} {T : Addr} {vs : List SV} {K : St → Prop} (hm : .list T vs ∈ σ.led) (hl : ts.length = vs.length) (h : AsAll Z n f σ ts vs K) (he : assignEach ts (n.env f) = ts.map fun t => (false, assign t (n.env f)) := by rfl) : AsOk Z n f σ (.Tuple ts tk pos) (.ref T) K := by
  intro v' hv R E hR s hs
  cases hv
  obtain ⟨vs', ht, hvs⟩ := hs.isList hm
  obtain ⟨g1, g2, g3⟩ := star_none he
  obtain ⟨h', tk, m, c, rfl, F, lm, N, X, nd⟩ := hs
  refine kun_list F N ht rfl (by rw [g2, hl, List.size_toArray, vsAre_len hvs]) g1 fun h2 F' N' => ?_
  rw [g3]
  exact as_all (fun σ' hk s' hs' => hR () σ' hk () s' rfl hs') h hvs _ ⟨h2, tk, m, c, rfl, F', lm, N', X, nd⟩
theorem as_tup2 {t1 t2 : Expr} {tk : Nat} {T : Addr} {a b : SV} {K : St → Prop} (hm : .tup T [a, b] ∈ σ.led) (h : AsOk Z n f σ t1 a fun σ1 => AsOk Z n f σ1 t2 b K) (he : assignEach [t1, t2] (n.env f) = [t1, t2].map fun t => (false, assign t (n.env f)) := by rfl) : AsOk Z n f σ (.Tuple [t1, t2] tk pos) (.ref T) K := as_tup hm rfl h he
theorem as_tup3 {t1 t2 t3 : Expr} {tk : Nat} {T : Addr} {a b c : SV} {K : St → Prop} (hm : .tup T [a, b, c] ∈ σ.led) (h : AsOk Z n f σ t1 a fun σ1 => AsOk Z n f σ1 t2 b fun σ2 => AsOk Z n f σ2 t3 c K) (he : assignEach [t1, t2, t3] (n.env f) = [t1, t2, t3].map fun t => (false, assign t (n.env f)) := by rfl) : AsOk Z n f σ (.Tuple [t1, t2, t3] tk pos) (.ref T) K := as_tup hm rfl h he
theorem as_lst2 {t1 t2 : Expr} {tk : Nat} {T : Addr} {a b : SV} {K : St → Prop} (hm : .list T [a, b] ∈ σ.led) (h : AsOk Z n f σ t1 a fun σ1 => AsOk Z n f σ1 t2 b K) (he : assignEach [t1, t2] (n.env f) = [t1, t2].map fun t => (false, assign t (n.env f)) := by rfl) : AsOk Z n f σ (.Tuple [t1, t2] tk pos) (.ref T) K := as_lst hm rfl h he
/-- two names stored from a display: the stores come in the reversed order -/
theorem ex_swap {ts : List Expr} {tk : Nat} {K : Fl → St → Prop} (O : Ok Z n f k) (hx : n.cs.names.lookup x = some .local) (hy : n.cs.names.lookup y = some .local) (h : EvOk Z n f σ e fun v σ1 => ∃ T a b, v = .ref T ∧ .tup T [a, b] ∈ σ1.led ∧ ExOk Z n f ⟨(x, a) :: (y, b) :: σ1.m, σ1.led⟩ rest K)
    (hs : swapsWithSole [.Tuple ts tk tp] e pos.line (n.env f) = pure false := by rfl) (hw : swappedStores [.Tuple ts tk tp] e (n.env f) = pure (some [x, y]) := by rfl) : ExOk Z n f σ (.Assign [.Tuple ts tk tp] e pos :: rest) K := by
  refine ex_step fun R E hR s hs' => Assign_Tuple_swapped (names := [x, y]) (h _ E (fun v σ1 hk v' s1 hv hs1 => ?_) s hs') hs hw
  obtain ⟨T, a, b, rfl, hm, hk⟩ := hk
  cases hv
  obtain ⟨vs', ht, a', r, rfl, ha, b', r', rfl, hb, rfl⟩ := hs1.isTup hm
  obtain ⟨h', tk, m, c, rfl, F, lm, N, X, nd⟩ := hs1
  refine unpackItemsN_ F N ht rfl rfl fun h2 F2 N2 => ?_
  show wpAny Z.M (n.A f) (assignInOrder [bindName (n.env f) y, bindName (n.env f) x] [b', a']) _ _ _
  refine wpAny_assignInOrder_more (bindName_ (storeX_L F2 N2 (fun h3 F3 N3 => ?_) O.fk hy))
  refine wpAny_assignInOrder_more (bindName_ (storeX_L F3 N3 (fun h4 F4 N4 => ?_) O.fk hx))
  exact wpAny_assignInOrder_none (hR .next _ hk _ _ rfl ⟨h4, _, _, c, rfl, F4, locIs_cons (locIs_cons lm hb) ha, N4, X, nd⟩)
theorem ev_listcopy {l : Addr} {vs : List SV} {K : SV → St → Prop} (O : Ok Z n f k) (hx : n.cs.names.lookup (Str.ofString "list") = some .globalImplicit) (ho : PE n σ o (.ref l)) (hm : .list l vs ∈ σ.led) (hz : vs.length ≤ 1000) (hK : ∀ D, K (.ref D) ⟨σ.m, .list D vs :: σ.led⟩) : EvOk Z n f σ (.Call (.Name (Str.ofString "list") p) [o] [] pos) K := by
  intro R E hR s hs
  refine Call_ ?_
  have hs0 := hs
  obtain ⟨h', tk, m, c, rfl, F, lm, N, X, nd⟩ := hs
  refine nameX_B F O.X (topRead_of O.T) (v := .type "list") (by kernel_rfl) (by kernel_rfl) (by decide) ?_ O.fk hx (by decide)
  refine Pv.callWith_type1 (args_cons (ho.sound O (fun a s1 ha hs1 => args_nil ?_) hs0) (ho.star _ _)) (ho.star _ _)
  cases ha
  obtain ⟨vs', hl, hv⟩ := hs1.isList hm
  obtain ⟨h', tk, m, c, rfl, F, lm, N, X, nd⟩ := hs1
  exact list_copyK F N hl (fun D c h' F' N' l1 => hR _ _ (hK D) _ _ rfl (At.new F' lm N' l1 ⟨_, _, rfl, hv⟩ X nd)) (by rw [List.size_toArray, vsAre_len hv, sizeLine_eq]; omega)
end
section
variable {Z : Wd} {n : Fn} {f : Frm} {σ : St} {k : Nat} {e o : Expr} {p pos tp : Pos} {rest : List Stmt} {args : List Expr} {x y : Str} {v : SV} {led' : List SE}
theorem ev_ifexp {t a c : Expr} {b : Bool} {K : SV → St → Prop} (O : Ok Z n f k) (h : TE n σ t b) (h1 : b = true → EvOk Z n f σ a K) (h2 : b = false → EvOk Z n f σ c K) : EvOk Z n f σ (.IfExp t a c pos) K := by
  refine fun R E hR s hs => IfExp_ (h.sound O rfl (fun s' hs' => ?_) hs)
  cases b with
  | true => rw [if_pos rfl]; exact h1 rfl R E hR s' hs'
  | false => rw [if_neg Bool.false_ne_true]; exact h2 rfl R E hR s' hs'
theorem ev_ifexpd {t a c : Expr} {q : Prop} [Decidable q] {K : SV → St → Prop} (O : Ok Z n f k) (h : TE n σ t (decide q)) (h1 : q → EvOk Z n f σ a K) (h2 : ¬ q → EvOk Z n f σ c K) : EvOk Z n f σ (.IfExp t a c pos) K :=
  ev_ifexp O h (fun e => h1 (of_decide_eq_true e)) fun e => h2 (of_decide_eq_false e)
theorem vsAre_set : ∀ {xs : List SV} {vs : List Value} {v' : Value}, v.is v' → VsAre xs vs → ∀ i : Nat, VsAre (xs.set i v) (vs.set i v')
  | [], vs, _, _, h, _ => by cases (show vs = [] from h); rfl
  | _ :: _, _, _, hv, ⟨u, r, e, hu, hr⟩, 0 => by rw [e]; exact ⟨_, _, rfl, hv, hr⟩
  | _ :: _, _, _, hv, ⟨u, r, e, hu, hr⟩, i + 1 => by rw [e]; exact ⟨_, _, rfl, hu, vsAre_set hv hr i⟩
theorem as_item {i : Expr} {D : Addr} {vs vs2 : List SV} {q : Int} {K : St → Prop} (O : Ok Z n f k) (ho : PE n σ o (.ref D)) (hi : PE n σ i (.int q)) (U : UpdE (.list D vs) (.list D vs2) σ.led led') (he : vs.set q.toNat v = vs2) (h0 : 0 ≤ q) (h1 : q < vs.length) (h2 : q < 1000000) (hK : K ⟨σ.m, led'⟩) :
    AsOk Z n f σ (.Subscript o i pos) v K := by
  refine fun v' hv R' E hR s hs => kas_sub (ho.sound O (fun o' s1 hao hs1 => hi.sound O (fun i' s2 hai hs2 => ?_) hs1) hs)
  subst he
  cases hao
  obtain ⟨t, rfl⟩ := hai
  obtain ⟨m, pre, ob, post, F, N, d1, d2, ⟨vs', c, e, hvs⟩, back⟩ := At.upd1 U list_one hs2
  cases pair_inj e
  have z := N (D, W.listOf vs'.toArray c) (List.mem_append.mpr (.inr (.head _)))
  have hl := vsAre_len hvs
  refine ki_setAt z.1 h0 (by omega) (by rw [List.size_toArray]; omega) (hR () _ hK _ _ rfl (back _ _ (W.listOf (vs'.set q.toNat v').toArray c) (F.change (Heap.SameBut.update ..) z.2.1 z.2.2) (ki_turn _ N d1 d2 ?_ ?_) ⟨_, _, rfl, vsAre_set hv hvs _⟩))
  · show vs'.toArray.setIfInBounds q.toNat v' = (vs'.set q.toNat v').toArray
    simp
  · simp
theorem ev_int {K : SV → St → Prop} (h : EvOk Z n f σ e fun v σ1 => ∃ q : Int, v = .int q ∧ σ1 = σ) (hK : ∀ q : Int, K (.int q) σ) : EvOk Z n f σ e K := Ev.mono h (by rintro _ _ ⟨q, rfl, rfl⟩; exact hK q)
theorem ev_item {i : Expr} {I : Addr} {K : SV → St → Prop} (O : Ok Z n f k) (ho : PE n σ o (.ref I)) (hi : EvOk Z n f σ i fun w σ1 => ∃ (q : Int) (vs : List SV) (u : SV), w = .int q ∧ .list I vs ∈ σ1.led ∧ 0 ≤ q ∧ q < 1000000 ∧ vs[q.toNat]? = some u ∧ K u σ1)
    (hs : ∀ o' i', subscripted i false o' i' = operate [o', i'] (getItem o' i') := by intros; rfl) : EvOk Z n f σ (.Subscript o i pos) K := by
  refine fun R E hR s hs1 => Subscript_ (ho.sound O (fun o' s1 hao hs1 => hi _ E (fun w σ1 hk w' s2 hw hs2 => ?_) s1 hs1) hs1)
  cases hao
  obtain ⟨q, vs, u, rfl, hm, h0, h1, hg, hK⟩ := hk
  obtain ⟨t, rfl⟩ := hw
  obtain ⟨vs', hl, hv⟩ := hs2.isList hm
  obtain ⟨v', h3, h4⟩ := vsAre_get hv hg
  exact kba_turn (value' := .Name (Str.ofString "x") default) (fun _ => rfl) (tail_any hl.typeIs slot_list_getitem.lookup (getItem_listL hl h0 (by omega) h3 (hR _ _ hK _ _ h4 hs2)) (hs _ _))
theorem ev_ifT {t a c : Expr} {K : SV → St → Prop} (O : Ok Z n f k) (h : TE n σ t true) (h1 : EvOk Z n f σ a K) : EvOk Z n f σ (.IfExp t a c pos) K := ev_ifexp O h (fun _ => h1) fun h => nomatch h
theorem ev_ifF {t a c : Expr} {K : SV → St → Prop} (O : Ok Z n f k) (h : TE n σ t false) (h1 : EvOk Z n f σ c K) : EvOk Z n f σ (.IfExp t a c pos) K := ev_ifexp O h (fun h => nomatch h) fun _ => h1
end
section
variable {Z : Wd} {n : Fn} {f : Frm} {σ : St} {k : Nat} {e o l r : Expr} {p pos tp : Pos} {x y : Str} {v : SV}
theorem At.isInts {s : Shared} {a : Addr} {ns : List Int} (hs : At Z f σ s) (hm : .list a (ns.map .int) ∈ σ.led) : ∃ vs', s.heap.IsList a vs'.toArray ∧ IntsAre vs' ns := by
  obtain ⟨vs', h1, h2⟩ := hs.isList hm
  exact ⟨vs', h1, vsAre_ints h2⟩
theorem ev_eqL {K : SV → St → Prop} (O : Ok Z n f k) (hk : 2 ≤ k) (h : EvOk Z n f σ l fun v σ1 => ∃ a, v = .ref a ∧ EvOk Z n f σ1 r fun u σ2 => ∃ (b : Addr) (ns ms : List Int), u = .ref b ∧ .list a (ns.map .int) ∈ σ2.led ∧ .list b (ms.map .int) ∈ σ2.led ∧ K (.bool (decide (ns = ms))) σ2)
    (hm : behindInMarks .Eq r = false := by rfl) : EvOk Z n f σ (.Compare l [.Eq] [r] pos) K := by
  refine fun R E hR s hs => wpAny_Compare1 (h _ E (fun v σ1 hk v' s1 hv hs1 => ?_) s hs) hm
  obtain ⟨a, rfl, hk⟩ := hk
  refine hk _ E (fun u σ2 hk2 u' s2 hu hs2 => ?_) s1 hs1
  obtain ⟨b, ns, ms, rfl, m1, m2, hK⟩ := hk2
  cases hv
  cases hu
  obtain ⟨xs, h1, i1⟩ := hs2.isInts m1
  obtain ⟨ys, h2, i2⟩ := hs2.isInts m2
  have := O.un
  exact ke_eq_ints h1 h2 i1 i2 (by show f.un + 64 < cLine; omega) (hR _ _ hK _ _ rfl hs2)
theorem tst_eqL {K : Bool → St → Prop} (O : Ok Z n f k) (hk : 2 ≤ k) (h : EvOk Z n f σ l fun v σ1 => ∃ a, v = .ref a ∧ EvOk Z n f σ1 r fun u σ2 => ∃ (b : Addr) (ns ms : List Int), u = .ref b ∧ .list a (ns.map .int) ∈ σ2.led ∧ .list b (ms.map .int) ∈ σ2.led ∧ K (decide (ns = ms)) σ2)
    (hm : behindInMarks .Eq r = false := by rfl) : TestOk Z n f σ (.Compare l [.Eq] [r] pos) K := by
  refine fun _ _ R E hR s hs => wpAny_isTrue_Compare1 (h _ E (fun v σ1 hk v' s1 hv hs1 => ?_) s hs) hm
  obtain ⟨a, rfl, hk⟩ := hk
  refine hk _ E (fun u σ2 hk2 u' s2 hu hs2 => ?_) s1 hs1
  obtain ⟨b, ns, ms, rfl, m1, m2, hK⟩ := hk2
  cases hv
  cases hu
  obtain ⟨xs, h1, i1⟩ := hs2.isInts m1
  obtain ⟨ys, h2, i2⟩ := hs2.isInts m2
  have := O.un
  exact ke_eq_ints h1 h2 i1 i2 (by show f.un + 64 < cLine; omega) (wpAny_truthy_bool (hR _ _ hK _ _ rfl hs2))
theorem tst_neL {K : Bool → St → Prop} (O : Ok Z n f k) (hk : 2 ≤ k) (h : EvOk Z n f σ l fun v σ1 => ∃ a, v = .ref a ∧ EvOk Z n f σ1 r fun u σ2 => ∃ (b : Addr) (ns ms : List Int), u = .ref b ∧ .list a (ns.map .int) ∈ σ2.led ∧ .list b (ms.map .int) ∈ σ2.led ∧ K (!decide (ns = ms)) σ2)
    (hm : behindInMarks .NotEq r = false := by rfl) : TestOk Z n f σ (.Compare l [.NotEq] [r] pos) K := by
  refine fun _ _ R E hR s hs => wpAny_isTrue_Compare1 (h _ E (fun v σ1 hk v' s1 hv hs1 => ?_) s hs) hm
  obtain ⟨a, rfl, hk⟩ := hk
  refine hk _ E (fun u σ2 hk2 u' s2 hu hs2 => ?_) s1 hs1
  obtain ⟨b, ns, ms, rfl, m1, m2, hK⟩ := hk2
  cases hv
  cases hu
  obtain ⟨xs, h1, i1⟩ := hs2.isInts m1
  obtain ⟨ys, h2, i2⟩ := hs2.isInts m2
  have := O.un
  exact ke_ne_ints h1 h2 i1 i2 (by show f.un + 64 < cLine; omega) (wpAny_truthy_bool (hR _ _ hK _ _ rfl hs2))
theorem ev_sliceE {lo hi : Option Expr} {K : SV → St → Prop} {sp : Pos} (O : Ok Z n f k) (h : EvOk Z n f σ o fun v σ1 => ∃ (l : Addr) (vs : List SV) (i u : Option Int), v = .ref l ∧ .list l vs ∈ σ1.led ∧ PEo n σ1 lo i ∧ PEo n σ1 hi u ∧ vs.length ≤ 100000 ∧ ∀ D, K (.ref D) ⟨σ1.m, .list D (pick vs i u) :: σ1.led⟩) : EvOk Z n f σ (.Subscript o (.Slice lo hi none sp) pos) K := by
  refine fun R E hR s hs => Subscript_ (h _ E (fun v σ1 hk v' s1 hv hs1 => ?_) s hs)
  obtain ⟨l, vs, i, u, rfl, hl, h1, h2, hz, hK⟩ := hk
  cases hv
  refine wpAny_Slice (h1.sound O (fun v1 s2 hv1 hs2 => h2.sound O (fun v2 s3 hv2 hs3 => wpAny_pure ?_) hs2) hs1)
  obtain ⟨vs', hil, hv⟩ := hs3.isList hl
  obtain ⟨h, tk, m, c, rfl, F, lm, N, X, nd⟩ := hs3
  exact kba_turn (value' := .Name (Str.ofString "x") default) (fun _ => rfl) (kms_slice_lit F N hil hv1 hv2 rfl (fun D h' F' N' l1 => hR _ _ (hK D) _ _ rfl (At.new F' lm N' l1 ⟨_, _, rfl, vsAre_pick hv i u⟩ X nd)) rfl (fun _ => rfl) (by rw [List.size_toArray, vsAre_len hv, sizeLine_eq]; omega))
end
theorem range_built (P : Params) : (nsIn (Mine.hd.heap_39 P) mainGlobals (Str.ofString "range") == some none && bootBuiltins (Str.ofString "range") == some (.type "range")) = true := by kernel_rfl
section
variable {Z : Wd} {n : Fn} {f : Frm} {σ : St} {k : Nat} {x : Str} {body rest : List Stmt}
/-- a for over range(e), e the number of turns -/
theorem ex_forR {e : Expr} {rp px cp pos : Pos} {K : Fl → St → Prop} (O : Ok Z n f k) (hx : n.cs.names.lookup x = some .local) (hr : n.cs.names.lookup (Str.ofString "range") = some .globalImplicit) (hn : noStar [e] = true)
    (he : EvOk Z n f σ e fun v σ1 => ∃ (N : Nat) (J : Nat → St → Prop), v = .int N ∧ N ≤ 100000 ∧ J 0 σ1 ∧
      (∀ (i : Nat) τ own, i < N → Ok Z n { f with own := own } k → J i τ → ExOk Z n { f with own := own } ⟨(x, .int i) :: τ.m, τ.led⟩ body fun fl τ' => (fl = .next ∨ fl = .cont) ∧ J (i + 1) τ') ∧ ∀ τ, J N τ → ExOk Z n f τ rest K)
    (hf : ∀ v, foldedSetIterable (.Call (.Name (Str.ofString "range") rp) [e] [] cp) (n.env f) v = pure v := by intro _; rfl) : ExOk Z n f σ (.For (.Name x px) (.Call (.Name (Str.ofString "range") rp) [e] [] cp) body [] pos :: rest) K := by
  refine ex_step fun R E hR s hs => wpAny_mono (Q := R) (E := fun _ _ => False) (For_invV f.h₀ hx ?_ ?_ hf .never) (fun _ _ h => h) fun _ _ h => h.elim
  · show (n.cs.kind == .class || (n.cs.kind == .module && f.L != mainGlobals)) = false
    rw [O.fk]; rfl
  · have hb := range_built Z.w.params
    rw [Bool.and_eq_true] at hb
    obtain ⟨h, tk, m, c, rfl, F, lm, N, X, nd⟩ := hs
    refine Call_ (nameX_B F O.X (topRead_of O.T) (eq_of_beq hb.1) (eq_of_beq hb.2) (by decide) ?_ O.fk hr (by decide))
    refine Pv.callWith_type1 (args_cons (he _ _ (fun v σ1 hk v' s1 hv hs1 => args_nil ?_) _ ⟨h, tk, m, c, rfl, F, lm, N, X, nd⟩) (noStar_cons hn _).1) (noStar_cons hn _).1 rfl
    clear F lm N X nd
    obtain ⟨N, J, rfl, hN, hj, turn, done⟩ := hk
    obtain ⟨t, rfl⟩ := hv
    obtain ⟨h, tk, m, c, rfl, F, lm, Nw, X, nd⟩ := hs1
    refine range1_rows F Nw fun h2 tk2 t1 u1 v1 hR2 F2 N2 _ => wpAny_pyIter_range hR2 (small_one (by omega) (by omega) (by omega) (by omega)) ?_
    have W : Walks Z.prog Z.w (n.A f) h2.objs.size [h2.objs.size] [h2.objs.size] N (fun i v => i < N ∧ ∃ t, v = .int ((0 : Int) + i * 1) t)
        (fun i h => IsRangeIter h h2.objs.size ((0 : Int) + (i : Nat) * 1) ((N : Int) - (i : Nat)) 1) := (Walks.range rfl _ 0 1 N).bound
    have hsz : Builtin.Range.rangeSize 0 (N : Int) 1 = (N : Int) := by rw [rangeSize_nat]; omega
    refine loop_at (σ := σ1) (V := fun i => .int i) (J := J) O W (by simp) (fun i h' hT b hb => ?_) ?_ (fun b hb => ?_) (fun i v hP => ?_) (by show IsRangeIter _ _ _ _ _; rw [hsz]; simpa using Heap.get?_push_size _ rfl) (F2.push _) lm (fun q hq => ⟨Heap.get?_push_of_some _ (N2 q hq).1, (N2 q hq).2⟩) X nd (fun q hq hm => ?_) hj turn (fun τ s' hJ hs' => ?_)
    · cases List.mem_singleton.mp hb; exact ⟨_, hT⟩
    · intro hm
      exact absurd F2.ns.lt ((List.mem_singleton.mp hm) ▸ Nat.lt_irrefl _)
    · rw [List.mem_singleton.mp hb]
      exact next_is_new F2
    · obtain ⟨_, t, rfl⟩ := hP
      exact ⟨t, congrArg (Value.int · t) (by omega)⟩
    · exact absurd (Heap.lt_size (N2 q hq).1) ((List.mem_singleton.mp hm) ▸ Nat.lt_irrefl _)
    · exact hR .next τ (done τ hJ) _ _ rfl hs'
end
def InC (own : List (Addr × Obj)) (C : Addr) (x : Str) (u : SV) : Prop := ∃ oC m₂ v', (C, oC) ∈ own ∧ LCg.NsObj oC m₂ ∧ m₂ x = some v' ∧ u.is v'
theorem nd1 {c r : List (Addr × Obj)} {a : Addr × Obj} (nd : ((c ++ a :: r).map (·.1)).Nodup) : ∀ q ∈ c ++ r, q.1 ≠ a.1 := fun q hq e => by
  have p : (c ++ a :: r).Perm (a :: (c ++ r)) := List.perm_middle
  exact (List.nodup_cons.mp (((p.map (·.1)).nodup_iff).mp nd)).1 (List.mem_map.mpr ⟨q, hq, e⟩)
theorem news_swap {h₀ h h' : Heap} {L : Addr} {c r : List (Addr × Obj)} {a : Addr} {o o' : Obj} (N : News h₀ L h (c ++ (a, o) :: r)) (nd : ((c ++ (a, o) :: r).map (·.1)).Nodup) (hk : ∀ b x, b ≠ a → h.get? b = some x → h'.get? b = some x) (ha : h'.get? a = some o') : News h₀ L h' (c ++ (a, o') :: r) := fun q hq => by
  have h1 := N (a, o) (by simp)
  rcases List.mem_append.mp hq with hq | hq
  · have hq' : q ∈ c ++ (a, o) :: r := List.mem_append_left _ hq
    exact ⟨hk _ _ (nd1 nd q (List.mem_append_left _ hq)) (N q hq').1, (N q hq').2⟩
  · rcases List.mem_cons.mp hq with rfl | hq
    · exact ⟨ha, h1.2⟩
    · have hq' : q ∈ c ++ (a, o) :: r := List.mem_append_right _ (List.mem_cons_of_mem _ hq)
      exact ⟨hk _ _ (nd1 nd q (List.mem_append_right _ hq)) (N q hq').1, (N q hq').2⟩
abbrev testsOf (ifs : List Expr) (env : Env) : Sem Bool := forIn ifs true fun c r => if r = true then do let ok ← isTrue c env (eval c env); pure (ForInStep.yield ok) else pure (ForInStep.yield r)
section
variable {Z : Wd} {n : Fn} {f : Frm} {σ : St} {k : Nat} {x : Str} {K : SV → St → Prop}
/-- a list comprehension over a list of the ledger; the turns leave the state as it is -/
theorem ev_comp {elt it : Expr} {ifs : List Expr} {px pos : Pos} {scope : Scope} {cl : List (Str × Addr)} (O : Ok Z n f k)
    (hclos : closureFor scope (n.env f) = pure cl) (hcell : ∀ y ∈ scope.names, y.2 ≠ .cell) (hkind : scope.kind = .function)
    (hnames : ∀ y ∈ scope.names, y.2 = .local → scope.names.lookup y.1 = some .local) (hx : scope.names.lookup x = some .local)
    (hit : EvOk Z n f σ it fun w σ0 => ∃ (l : Addr) (vs : List SV) (σ1 : St) (pre : Nat → List SV), w = .ref l ∧ Weak Z σ0 ⟨σ1.m, .list l vs :: σ1.led⟩ ∧ vs.length ≤ 100000 ∧ pre 0 = [] ∧ (∀ i, (pre i).length ≤ i) ∧
      (∀ i u own C, vs[i]? = some u → InC own C x u → Ok Z n { f with own := own } k →
        EvB Z n { f with own := own } σ1 (testsOf ifs (compEnvC scope cl C (n.env f))) fun b τ => (b = false → pre (i + 1) = pre i ∧ Weak Z τ σ1) ∧
          (b = true → EvV Z n { f with own := own } τ (eval elt (compEnvC scope cl C (n.env f))) fun y τ' => pre (i + 1) = pre i ++ [y] ∧ Weak Z τ' σ1)) ∧
      ∀ D, K (.ref D) ⟨σ1.m, .list D (pre vs.length) :: .list l vs :: σ1.led⟩)
    (hs : ∀ v, foldedSetIterable it (n.env f) v = pure v := by intro _; rfl) : EvOk Z n f σ (.ListComp elt [⟨.Name x px, it, ifs, 0⟩] scope pos) K := by
  intro R E hR s hs0
  rw [eval_ListComp]
  refine wpAny_comprehension_free (use := none) rfl hs hclos hkind hnames (hit _ E (fun w σ0 hk w' s1 hw hs1 => ?_) s hs0)
  obtain ⟨l, vs, σ1, pre, rfl, T, hlen, hp0, hpl, turn, done⟩ := hk
  cases hw
  obtain ⟨h, tk, m, c₀, rfl, F, lm, N, ⟨c1, c, rfl, ⟨vs', q, rfl, hv⟩, X⟩, nd⟩ := T f s1 hs1
  have hl : h.get? l = some (W.listOf vs'.toArray q) := N.get (by simp)
  have hil : h.IsList l vs'.toArray := ⟨_, hl, rfl, q, rfl⟩
  have hlt : l < h.objs.size := Heap.lt_size hl
  have hz : vs'.toArray.size = vs.length := by rw [List.size_toArray, vsAre_len hv]
  refine wpAny_pyIter_list hil ?_
  have Wk := Walks.list (prog := Z.prog) (w := Z.w) (A := n.A f) rfl h.objs.size l (Nat.ne_of_lt hlt) vs'.toArray
  rw [hz] at Wk
  refine wpAny_newObj_type (wpAny_newFunctionEnv hcell (by intro y hy; simp at hy) (fun h₁ hns₁ hsb₁ => ?_) hkind)
  dsimp only at hns₁ hsb₁ ⊢
  generalize hH1 : h.push { cls := .type "list_iterator", data := .fields #[.ref l, .int 0 0] } = H1 at hns₁ hsb₁ ⊢
  have hD : H1.objs.size = h.objs.size + 1 := by rw [← hH1, Heap.size_push]
  generalize hH2 : H1.push { cls := .type "list", dict := none, data := .seq ([] : List Value).toArray } = H2 at hns₁ hsb₁ ⊢
  have hC : H2.objs.size = h.objs.size + 2 := by rw [← hH2, Heap.size_push, hD]
  have old : ∀ b o, h.get? b = some o → h₁.get? b = some o := fun b o e => hsb₁.extBut b o (fun q => by have h1 := Heap.lt_size e; have h2 : b = H2.objs.size := q; rw [h2, hC] at h1; exact absurd h1 (show ¬ ((h.objs.size : Nat) + 2 < h.objs.size) by omega)) (Heap.get?_push_of_some _ (hH2 ▸ Heap.get?_push_of_some _ (hH1 ▸ Heap.get?_push_of_some _ e)))
  have hacc : h₁.get? H1.objs.size = some (LCg.lst []) := hsb₁.extBut _ _ (by rw [hC, hD]; show (_ : Nat) ≠ _; omega) (Heap.get?_push_of_some _ (hH2 ▸ Heap.get?_push_size _ rfl))
  have hI1 : H1.get? h.objs.size = some { cls := .type "list_iterator", data := .fields #[.ref l, .int 0 0] } := hH1 ▸ Heap.get?_push_size _ rfl
  have hI2 : h₁.get? h.objs.size = some { cls := .type "list_iterator", data := .fields #[.ref l, .int 0 0] } := hsb₁.extBut _ _ (by rw [hC]; show (_ : Nat) ≠ _; omega) (Heap.get?_push_of_some _ (hH2 ▸ Heap.get?_push_of_some _ hI1))
  have fresh₀ : ∀ a : Nat, h.objs.size ≤ a → f.h₀.get? a = none := fun a ha => by
    cases e : f.h₀.get? a with
    | none => rfl
    | some o' => exact absurd (Heap.lt_size (F.keep a o' e)) (Nat.not_lt.mpr ha)
  have hLlt : f.L < h.objs.size := F.ns.lt
  obtain ⟨oC0, hC0, hoC0⟩ := LCg.ns_obj hns₁
  generalize hIe : h.objs.size = I at *
  generalize hDe : H1.objs.size = D at *
  generalize hCe : H2.objs.size = C at *
  have Fr1 : ∀ {h2 h3 : Heap} {a : Nat}, Fr f.h₀ f.L h2 m → I ≤ a → (∀ b o, b ≠ a → h2.get? b = some o → h3.get? b = some o) → Fr f.h₀ f.L h3 m := fun F2 ha hk =>
    ⟨F2.ns.at' fun o e => hk _ o (Nat.ne_of_lt (Nat.lt_of_lt_of_le hLlt ha)) e, fun b o e => hk b o (fun q => by rw [q, fresh₀ _ ha] at e; cases e) (F2.keep b o e), F2.above⟩
  have hIL : I ≠ f.L := Ne.symm (Nat.ne_of_lt hLlt)
  have hI0 := fresh₀ I (Nat.le_refl _)
  have hD0 := fresh₀ D (by omega)
  have hC0' := fresh₀ C (by omega)
  have hDL : D ≠ f.L := fun e => by have : (f.L : Nat) < I := hLlt; rw [← e] at this; exact absurd this (show ¬ ((D : Nat) < I) by omega)
  have hCL : C ≠ f.L := fun e => by have : (f.L : Nat) < I := hLlt; rw [← e] at this; exact absurd this (show ¬ ((C : Nat) < I) by omega)
  generalize hol : W.listOf vs'.toArray q = ol at *
  have hod : ol.cls = .type "list" ∧ ol.data = .seq vs'.toArray q := hol ▸ ⟨rfl, rfl⟩
  let own4 : Obj → Obj → List Value → List (Addr × Obj) := fun oI oC ys => (I, oI) :: (C, oC) :: (D, LCg.lst ys) :: (l, ol) :: f.own
  have hA0 : At Z { f with own := own4 { cls := .type "list_iterator", data := .fields #[.ref l, .int 0 0] } oC0 [] } σ1 { f.sh with heap := h₁, toks := tk + ([] : List (Str × Value)).length } := by
    have N' : ∀ p ∈ (l, ol) :: (c ++ f.own), p.1 < I := fun p hp => hIe ▸ Heap.lt_size (N p (by simpa using hp)).1
    refine ⟨h₁, _, m, c, rfl, Fr1 F (Nat.le_refl _) fun b o _ e => old b o e, lm, fun p hp => ?_, X, ?_⟩
    · rcases List.mem_append.mp hp with hp | hp
      · have := N p (by simp [hp]); exact ⟨old _ _ this.1, this.2⟩
      · rcases List.mem_cons.mp hp with rfl | hp
        · exact ⟨hI2, hIL, hI0⟩
        · rcases List.mem_cons.mp hp with rfl | hp
          · exact ⟨hC0, hCL, hC0'⟩
          · rcases List.mem_cons.mp hp with rfl | hp
            · exact ⟨hacc, hDL, hD0⟩
            · have := N p (by rcases List.mem_cons.mp hp with rfl | hp <;> simp [*]); exact ⟨old _ _ this.1, this.2⟩
    · have pm : (c ++ own4 { cls := .type "list_iterator", data := .fields #[.ref l, .int 0 0] } oC0 []).Perm ((I, { cls := .type "list_iterator", data := .fields #[.ref l, .int 0 0] }) :: (C, oC0) :: (D, LCg.lst []) :: (l, ol) :: (c ++ f.own)) :=
        List.perm_middle.trans (List.Perm.cons _ (List.perm_middle.trans (List.Perm.cons _ (List.perm_middle.trans (List.Perm.cons _ List.perm_middle)))))
      refine ((pm.map (·.1)).nodup_iff).mpr ?_
      have low : ∀ b : Nat, I ≤ b → b ∉ ((l, ol) :: (c ++ f.own)).map (·.1) := fun b hb hm => by
        obtain ⟨p, hp, e⟩ := List.mem_map.mp hm
        have := N' p hp
        rw [e] at this
        exact absurd this (Nat.not_lt.mpr hb)
      refine List.nodup_cons.mpr ⟨fun hm => ?_, List.nodup_cons.mpr ⟨fun hm => ?_, List.nodup_cons.mpr ⟨fun hm => low D (by omega) hm, by simpa using nd⟩⟩⟩
      · rcases List.mem_cons.mp hm with e | hm
        · exact absurd (show (I : Nat) = C from e) (by omega)
        · rcases List.mem_cons.mp hm with e | hm
          · exact absurd (show (I : Nat) = D from e) (by omega)
          · exact low I (Nat.le_refl _) hm
      · rcases List.mem_cons.mp hm with e | hm
        · exact absurd (show (C : Nat) = D from e) (by omega)
        · exact low C (by omega) hm
  have listAt : ∀ {oI oC ys s'}, At Z { f with own := own4 oI oC ys } σ1 s' → s'.heap.IsList l vs'.toArray ∧ s'.heap.get? I = some oI ∧ s'.heap.get? C = some oC ∧ s'.heap.get? D = some (LCg.lst ys) := by
    rintro oI oC ys s' ⟨h2, tk2, m2, c2, rfl, F2, lm2, N2, X2, nd2⟩
    exact ⟨⟨_, (N2 (l, _) (by simp [own4])).1, hod.1, q, hod.2⟩, (N2 (I, _) (by simp [own4])).1, (N2 (C, _) (by simp [own4])).1, (N2 (D, _) (by simp [own4])).1⟩
  clear hl hil hsb₁ hns₁ hH1 hH2 hIe hDe hCe old hacc hI1 hC0 N nd X lm hs1
  have hit0 : Heap.IsListIter h₁ I l 0 := ⟨_, hI2, rfl, rfl⟩
  have O4 : ∀ own, Ok Z n { f with own := own } k := fun own => ⟨O.B, O.X, O.T, O.fk, O.dp, O.un⟩
  have loop : ∀ s₃ : Shared, s₃ = { f.sh with heap := h₁, toks := tk + ([] : List (Str × Value)).length } →
      codeAny Z.M (n.A f) (.compLoop (.ListComp elt [⟨.Name x px, it, ifs, 0⟩] scope pos) 0 (.ref I) (.ref D) (compEnvC scope cl C (n.env f))) (compPost Z.M (n.A f) E none R (.ref D) C) s₃ := by
    rintro s₃ rfl
    refine codeAny_compLoop_tests
      (fun kk s' => ∃ i ys oI oC m', i ≤ vs.length ∧ kk = vs.length + 1 - i ∧ VsAre (pre i) ys ∧ LCg.NsObj oC m' ∧ s'.heap.IsListIter I l i ∧ At Z { f with own := own4 oI oC ys } σ1 s') ?_ (vs.length + 1)
      ⟨0, [], _, _, _, Nat.zero_le _, rfl, by rw [hp0]; rfl, hoC0, hit0, hA0⟩
    rintro kk s' ⟨i, ys, oI, oC, m', hi, rfl, hy, hoC, hli, hA⟩
    have hls := listAt hA
    by_cases hlt' : i < vs.length
    · refine Wk.item i _ _ _ hlt' ⟨hli, hls.1⟩ fun v h₂ tk₂ hPv hst₂ hk₂ => ?_
      have hk₂' : ∀ b o, b ≠ I → s'.heap.get? b = some o → h₂.get? b = some o := fun b o hb => hk₂ b o (by simpa using hb)
      obtain ⟨oI2, hoI2, _⟩ := id hst₂.1
      refine wpAny_assign_Name (wpAny_storeName_local (lookup_relabel_local hx) ((hoC.ns hls.2.2.1).at' fun o e => hk₂' _ o (show (C : Nat) ≠ I by omega) e) (fun h₃ hn₃ hs₃ => ?_) (by simp [compEnvC, relabel, hkind]))
      obtain ⟨oC3, hC3, hoC3⟩ := LCg.ns_obj hn₃
      have hk₃ : ∀ b o, b ≠ C → h₂.get? b = some o → h₃.get? b = some o := fun b o hb e => hs₃.extBut b o hb e
      have hA3 : At Z { f with own := own4 oI2 oC3 ys } σ1 { s' with heap := h₃, toks := tk₂ + 1 } := by
        obtain ⟨h2, tk2, m2, c2, rfl, F2, lm2, N2, X2, nd2⟩ := hA
        have Na := news_swap N2 nd2 hk₂' hoI2
        have nd3 : ((c2 ++ own4 oI2 oC ys).map (·.1)).Nodup := by simpa [own4] using nd2
        have e3 : ∀ oC', c2 ++ own4 oI2 oC' ys = (c2 ++ [(I, oI2)]) ++ (C, oC') :: (D, LCg.lst ys) :: (l, ol) :: f.own := fun _ => by simp [own4]
        refine ⟨h₃, _, m2, c2, rfl, ?_, lm2, ?_, X2, by simpa [own4] using nd2⟩
        · exact ⟨(F2.ns.at' fun o e => hk₂' _ o (Ne.symm hIL) e).at' fun o e => hk₃ _ o (Ne.symm hCL) e, fun b o e => hk₃ b o (fun q => by rw [q, hC0'] at e; cases e) (hk₂' b o (fun q => by rw [q, hI0] at e; cases e) (F2.keep b o e)), F2.above⟩
        · show News f.h₀ f.L h₃ (c2 ++ own4 oI2 oC3 ys)
          rw [e3]
          refine news_swap (o := oC) ?_ ?_ hk₃ hC3
          · rw [← e3]; exact Na
          · rw [← e3]; exact nd3
      obtain ⟨u, hu1, hu2⟩ : ∃ u, vs[i]? = some u ∧ u.is v := by
        have hP' : vs'[i]? = some v := by simpa using hPv
        obtain ⟨v', h3, h4⟩ := vsAre_get hv (List.getElem?_eq_getElem hlt')
        rw [hP'] at h3; cases h3
        exact ⟨_, List.getElem?_eq_getElem hlt', h4⟩
      have hin : InC (own4 oI2 oC3 ys) C x u := ⟨oC3, _, v, by simp [own4], hoC3, by simp, hu2⟩
      have hli3 : h₃.IsListIter I l (i + 1) := hst₂.1.at fun o e => hk₃ _ o (show (I : Nat) ≠ C by omega) e
      have step : ∀ {s4 : Shared}, At Z { f with own := own4 oI2 oC3 ys } σ1 s4 → s4.heap.IsListIter I l (i + 1) := fun h4 => by
        obtain ⟨o5, h5, h6⟩ := hli3
        have h7 : h₃.get? I = some oI2 := hk₃ _ _ (show (I : Nat) ≠ C by omega) hoI2
        rw [h7] at h5; cases h5
        exact ⟨_, (listAt h4).2.1, h6⟩
      refine turn i u _ C hu1 hin (O4 _) _ _ (fun b τ hb b' s4 hbb hs4 => ?_) _ hA3
      cases hbb
      cases b with
      | false =>
        obtain ⟨hp, hw⟩ := hb.1 rfl
        have hs4 := hw _ _ hs4
        rw [if_neg Bool.false_ne_true]
        exact ⟨vs.length + 1 - (i + 1), by omega, i + 1, ys, _, _, _, hlt', rfl, by rw [hp]; exact hy, hoC3, step hs4, hs4⟩
      | true =>
        rw [if_pos rfl]
        refine hb.2 rfl _ _ (fun y τ' hk y' s5 hy5 hs5 => ?_) _ hs4
        obtain ⟨hp, hw⟩ := hk
        have hs5 := hw _ _ hs5
        have hls5 := listAt hs5
        have hyl : ys.length ≤ i := by rw [vsAre_len hy]; exact hpl i
        refine append_at (hsz := by show ys.toArray.size ≤ sizeLine; rw [List.size_toArray, sizeLine_eq]; omega) hls5.2.2.2 fun h₅ hs₅ hD₅ => ?_
        have hk₅ : ∀ b o, b ≠ D → s5.heap.get? b = some o → h₅.get? b = some o := fun b o hb e => hs₅.extBut b o hb e
        refine ⟨vs.length + 1 - (i + 1), by omega, i + 1, ys ++ [y'], oI2, oC3, _, hlt', rfl, by rw [hp]; exact vsAre_app.mpr ⟨_, _, rfl, hy, ⟨y', [], rfl, hy5, rfl⟩⟩, hoC3, (step hs5).at fun o e => hk₅ _ o (show (I : Nat) ≠ D by omega) e, ?_⟩
        obtain ⟨h2, tk2, m2, c2, rfl, F2, lm2, N2, X2, nd2⟩ := hs5
        have e5 : ∀ ys', c2 ++ own4 oI2 oC3 ys' = (c2 ++ [(I, oI2), (C, oC3)]) ++ (D, LCg.lst ys') :: (l, ol) :: f.own := fun _ => by simp [own4]
        refine ⟨h₅, _, m2, c2, rfl, F2.change hs₅ hDL hD0, lm2, ?_, X2, by simpa [own4] using nd2⟩
        show News f.h₀ f.L h₅ (c2 ++ own4 oI2 oC3 (ys ++ [y']))
        rw [e5]
        refine news_swap (o := LCg.lst ys) ?_ ?_ hk₅ (hD₅.trans (congrArg some (LCg.lst_snoc ys y')))
        · rw [← e5]; exact N2
        · rw [← e5]; exact nd2
    · obtain rfl : i = vs.length := Nat.le_antisymm hi (Nat.not_lt.mp hlt')
      refine Wk.done _ _ _ ⟨hli, hls.1⟩ fun h₂ tk₂ hk₂ => ?_
      have hk₂' : ∀ b o, b ≠ I → s'.heap.get? b = some o → h₂.get? b = some o := fun b o hb => hk₂ b o (by simpa using hb)
      refine ⟨m', (hoC.ns hls.2.2.1).at' fun o e => hk₂' _ o (show (C : Nat) ≠ I by omega) e, fun h'' hs'' => ?_⟩
      refine hR _ _ (done D) _ _ rfl ?_
      have hk₃ : ∀ b o, b ≠ C → h₂.get? b = some o → h''.get? b = some o := fun b o hb e => hs''.extBut b o hb e
      obtain ⟨h2, tk2, m2, c2, rfl, F2, lm2, N2, X2, nd2⟩ := hA
      have pm : (c2 ++ own4 oI oC ys).Perm ((I, oI) :: (C, oC) :: (((D, LCg.lst ys) :: (l, ol) :: c2) ++ f.own)) :=
        List.perm_middle.trans (List.Perm.cons _ (List.perm_middle.trans (List.Perm.cons _ (List.perm_middle.trans (List.Perm.cons _ List.perm_middle)))))
      have nd3 := ((pm.map (·.1)).nodup_iff).mp nd2
      have nd4 := List.nodup_cons.mp nd3
      have nd5 := List.nodup_cons.mp nd4.2
      refine ⟨h'', _, m2, (D, LCg.lst ys) :: (l, ol) :: c2, rfl, ?_, lm2, fun p hp => ?_, ⟨[(D, LCg.lst ys)], (l, ol) :: c2, rfl, ⟨ys, ys.length, rfl, hy⟩, ⟨[(l, ol)], c2, rfl, ⟨vs', q, by rw [← hol], hv⟩, X2⟩⟩, nd5.2⟩
      · exact ⟨(F2.ns.at' fun o e => hk₂' _ o (Ne.symm hIL) e).at' fun o e => hk₃ _ o (Ne.symm hCL) e, fun b o e => hk₃ b o (fun q => by rw [q, hC0'] at e; cases e) (hk₂' b o (fun q => by rw [q, hI0] at e; cases e) (F2.keep b o e)), F2.above⟩
      · have := N2 p (pm.mem_iff.mpr (List.mem_cons_of_mem _ (List.mem_cons_of_mem _ hp)))
        refine ⟨hk₃ _ _ (fun e => nd5.1 (List.mem_map.mpr ⟨p, hp, e⟩)) (hk₂' _ _ (fun e => nd4.1 (List.mem_map.mpr ⟨p, List.mem_cons_of_mem _ hp, e⟩)) this.1), this.2⟩
  exact codeAny_compStart_list (loop _ rfl) (Wk.self 0 _ _ _ ⟨hit0, (listAt hA0).1⟩ (loop _ rfl))
end
noncomputable def relK (n : Fn) (scope : Scope) (y : Str) : Option NameKind := (relabel scope (envX n.cn n.cs 0 n.a n.ccd n.cl)).names.lookup y
/-- expressions of a comprehension that store nothing and call no def; x is its own name -/
inductive CE (n : Fn) (scope : Scope) (cl : List (Str × Addr)) (x : Str) (u : SV) (σ : St) : Expr → SV → Prop
  | var {p} : CE n scope cl x u σ (.Name x p) u
  | cel {y p c w} : relK n scope y = some .cell → (y == Str.ofString "__debug__") = false → cl.lookup y = some c → .cell c w ∈ σ.led → CE n scope cl x u σ (.Name y p) w
  | attrN {y p at_ pos a C es v} : CE n scope cl x u σ (.Name y p) (.ref a) → .obj a C es ∈ σ.led → attrOk C at_ = true → es.lookup at_ = some v → CE n scope cl x u σ (.Attribute (.Name y p) at_ pos) v
  | attrA {o y p at_ pos a C es v} : CE n scope cl x u σ (.Attribute o y p) (.ref a) → .obj a C es ∈ σ.led → attrOk C at_ = true → es.lookup at_ = some v → CE n scope cl x u σ (.Attribute (.Attribute o y p) at_ pos) v
  | attrS {o y p at_ pos a C es v} : CE n scope cl x u σ (.Subscript o y p) (.ref a) → .obj a C es ∈ σ.led → attrOk C at_ = true → es.lookup at_ = some v → CE n scope cl x u σ (.Attribute (.Subscript o y p) at_ pos) v
  | row {o i pos R l q a} : CE n scope cl x u σ o (.ref R) → .rows R l ∈ σ.led → CE n scope cl x u σ i (.int q) → (q, a) ∈ l → CE n scope cl x u σ (.Subscript o i pos) (.ref a)
inductive CEs (n : Fn) (scope : Scope) (cl : List (Str × Addr)) (x : Str) (u : SV) (σ : St) : List Expr → List SV → Prop
  | nil : CEs n scope cl x u σ [] []
  | cons {e r v vs} : CE n scope cl x u σ e v → CEs n scope cl x u σ r vs → CEs n scope cl x u σ (e :: r) (v :: vs)
section
variable {Z : Wd} {n : Fn} {f : Frm} {σ : St} {k : Nat} {x : Str} {u v : SV} {scope : Scope} {cl : List (Str × Addr)} {C : Addr} {e : Expr}
theorem CE.star (h : CE n scope cl x u σ e v) (rest : List Expr) (env : Env) : starEach (e :: rest) env = (false, eval e env) :: starEach rest env := by cases h <;> rfl
theorem CE.subs (h : CE n scope cl x u σ e v) (o i : Value) : subscripted e false o i = operate [o, i] (getItem o i) := by cases h <;> rfl
theorem CE.sound (O : Ok Z n f k) (hkind : scope.kind = .function) (hx : scope.names.lookup x = some .local) (hd : (x == Str.ofString "__debug__") = false) (hin : InC f.own C x u) (h : CE n scope cl x u σ e v) :
    ∀ {R E : Value → Shared → Prop}, (∀ v' s', v.is v' → At Z f σ s' → R v' s') → ∀ {s}, At Z f σ s → wpAny Z.M (n.A f) (eval e (compEnvC scope cl C (n.env f))) R E s := by
  induction h with
  | var =>
    intro R E hR s hs
    obtain ⟨oC, m₂, v', hm, hC, hv, hu⟩ := hin
    have hg : s.heap.get? C = some oC := by
      obtain ⟨h, tk, m, c, rfl, F, lm, N, X, nd⟩ := hs
      exact (N (C, oC) (List.mem_append_right _ hm)).1
    exact ldVarK (hC.ns hg) hv (hR v' _ hu hs) hkind (lookup_relabel_local hx) hd
  | cel hr hd hc hm =>
    intro R E hR s hs
    have hs0 := hs
    obtain ⟨h, tk, m, c, rfl, F, lm, N, X, nd⟩ := hs
    obtain ⟨pre, c1, post, rfl, o, v', rfl, ho, hv'⟩ := Exp.mem hm X
    exact ldCellK hc ⟨o, (N (_, o) (by simp)).1, ho⟩ (hR v' _ hv' hs0) hkind hr hd
  | attrN _ hm hx hv ih => exact fun hR s hs => Attribute_Name_ (ih (fun o s1 ho hs1 => by cases ho; exact getA O hm hx hv hR hs1) hs)
  | attrA _ hm hx hv ih => exact fun hR s hs => Attribute_any_ (ih (fun o s1 ho hs1 => by cases ho; exact getA O hm hx hv hR hs1) hs)
  | attrS _ hm hx hv ih => exact fun hR s hs => Attribute_any_ (ih (fun o s1 ho hs1 => by cases ho; exact getA O hm hx hv hR hs1) hs)
  | row _ hm hi hl ih1 ih2 =>
    refine fun {R E} hR s hs => Subscript_ (ih1 (fun o s1 ho hs1 => ih2 (fun i s2 hi' hs2 => ?_) hs1) hs)
    cases ho
    obtain ⟨t, rfl⟩ := hi'
    obtain ⟨m, c, o, kvs, F, N, h1, h2, h3, h4⟩ := hs2.rows hm
    exact kba_turn (value' := .Name (Str.ofString "x") default) (fun _ => rfl) (kda_item N h1 h2 (intKind_is _ _ _ _) (h3.at (List.mem_map.mpr ⟨_, hl, rfl⟩)) (hR _ _ rfl hs2.tok) (hi.subs _ _) fun _ => rfl)
/-- a def called in a comprehension -/
theorem ce_call {g : Addr} {y : Str} {p pos : Pos} {args : List Expr} {vs : List SV} {K : SV → St → Prop} (O : Ok Z n f k) (hkind : scope.kind = .function) (hx : scope.names.lookup x = some .local) (hd : (x == Str.ofString "__debug__") = false) (hin : InC f.own C x u)
    (hy : relK n scope y = some .globalImplicit) (hd2 : (y == Str.ofString "__debug__") = false) (hg : globTab.lookup y = some g) (ha : CEs n scope cl x u σ args vs) (hne : args ≠ []) (h : CallOk Z n f σ (.ref g) vs K)
    (hc : eval (.Call (.Name y p) args [] pos) (compEnvC scope cl C (n.env f)) = (do
      let fv ← eval (.Name y p) (compEnvC scope cl C (n.env f))
      callWith pos fv [] (backTo pos (starEach args (compEnvC scope cl C (n.env f)))) (backToKw pos (keywordEach [] (compEnvC scope cl C (n.env f))))) := by rfl) :
    EvV Z n f σ (eval (.Call (.Name y p) args [] pos) (compEnvC scope cl C (n.env f))) K := by
  intro R E hR s hs
  refine Call_ ?_ hc
  have hs0 := hs
  obtain ⟨h1, tk, m, c, rfl, F, lm, N, X, nd⟩ := hs
  obtain ⟨g1, g2⟩ := glob_is (P := Z.w.params) hg
  refine nameG_K F O.X (topRead_of O.T) g1 ?_ rfl hkind hy hd2
  have key : ∀ {args : List Expr} {vs : List SV}, CEs n scope cl x u σ args vs → ∀ {R E} {s : Shared}, At Z f σ s → (∀ vs' s', VsAre vs vs' → At Z f σ s' → R vs' s') → wpAny Z.M (n.A f) (spliced (backTo pos (starEach args (compEnvC scope cl C (n.env f))))) R E s := by
    intro args vs ha
    induction ha with
    | nil => exact fun hs hR => args_nil (hR [] _ rfl hs)
    | cons h1 _ ih => exact fun hs hR => args_cons (h1.sound O hkind hx hd hin (fun v' s1 hv hs1 => ih hs1 fun vs' s2 hvs hs2 => hR _ _ ⟨v', vs', rfl, hv, hvs⟩ hs2) hs) (h1.star _ _)
  have plain : ∀ {args : List Expr} {vs : List SV}, CEs n scope cl x u σ args vs → (backTo pos (starEach args (compEnvC scope cl C (n.env f)))).any (·.1) = false := by
    intro args vs ha
    induction ha with
    | nil => rfl
    | @cons e r v vs h1 _ ih =>
      rw [h1.star]
      show (false || (backTo pos (starEach r _)).any (·.1)) = false
      rw [ih]; rfl
  cases ha with
  | nil => exact absurd rfl hne
  | cons h1 h2 => exact callWith_K O.X g2 (key (.cons h1 h2) hs0 fun vs' s1 hvs hs1 => ⟨hs1.kin O, h vs' hvs R E hR s1 hs1⟩) (h1.star _ _) (plain h2)
/-- a plain element -/
theorem el_ce {K : SV → St → Prop} (O : Ok Z n f k) (hkind : scope.kind = .function) (hx : scope.names.lookup x = some .local) (hd : (x == Str.ofString "__debug__") = false) (hin : InC f.own C x u) (h : CE n scope cl x u σ e v) (hK : K v σ) : EvV Z n f σ (eval e (compEnvC scope cl C (n.env f))) K :=
  fun _ _ hR _ hs => h.sound O hkind hx hd hin (fun v' s' hv hs' => hR v σ hK v' s' hv hs') hs
theorem tests_none {env : Env} {K : Bool → St → Prop} (h : K true σ) : EvB Z n f σ (testsOf [] env) K := fun _ _ hR _ hs => wpAny_tests_nil (hR true σ h true _ rfl hs)
end
theorem bindL_out {kindOf : Str → Option NameKind} {x : Str} : ∀ {l : List (Str × Value)} {m : Str → Option Value}, x ∉ l.map (·.1) → bindL kindOf l m x = m x
  | [], _, _ => rfl
  | (n, v) :: r, m, h => by
    rw [List.map_cons, List.mem_cons, not_or] at h
    show bindL kindOf r (if kindOf n = some .local then fun y => if y = n then some v else m y else m) x = m x
    rw [bindL_out h.2]
    split
    · exact if_neg h.1
    · rfl
theorem bindL_in {kindOf : Str → Option NameKind} {x : Str} {v : Value} : ∀ {l : List (Str × Value)} {m : Str → Option Value}, (l.map (·.1)).Nodup → (∀ q ∈ l, kindOf q.1 = some .local) → l.lookup x = some v → bindL kindOf l m x = some v
  | (n, w) :: r, m, hn, hk, hl => by
    rw [List.map_cons] at hn
    have hn' := List.nodup_cons.mp hn
    show bindL kindOf r (if kindOf n = some .local then fun y => if y = n then some w else m y else m) x = some v
    rw [List.lookup_cons] at hl
    by_cases e : x = n
    · subst e
      rw [beq_self_eq_true] at hl
      cases hl
      rw [bindL_out hn'.1, if_pos (hk (x, v) (.head _))]
      exact if_pos rfl
    · rw [beq_eq_false_iff_ne.mpr e] at hl
      exact bindL_in hn'.2 (fun q hq => hk q (.tail _ hq)) hl
theorem bindC_local {kindOf : Str → Option NameKind} : ∀ {l : List (Str × Value)} {m : Str → Option Value}, (∀ q ∈ l, kindOf q.1 = some .local) → bindC kindOf l m = m
  | [], _, _ => rfl
  | (n, v) :: r, m, h => by
    show bindC kindOf r (if kindOf n = some .local then m else fun y => if y = n then some v else m y) = m
    rw [if_pos (h (n, v) (.head _))]
    exact bindC_local fun q hq => h q (.tail _ hq)
noncomputable def fnGoodC (K : Frag) (fa : Addr) (y : Str) (xs : List Str) : Bool := match fdOf K fa with
  | some fd => fd.globals == mainGlobals && fd.builtins == builtinsNs && fd.closure.isEmpty && xs.all (fun x => decide (fd.scope.names.lookup x = some .local)) && decide (fd.scope.names.lookup y = some .cell) && fd.scope.isCoroutine == false && fd.scope.isGenerator == false && decide (fd.scope.kind = .function) && codeIn K fd.code fd.qualname
  | none => false
/-- a def whose first parameter is its one cell -/
theorem SpecC.bodyC {Z : Wd} {k : Nat} {fa : Addr} {v0 : SV} {vs : List SV} {led : List SE} {P : SV → List SE → Prop} {fd : FuncData} {y : Str} {xs : List Str} {b : List Stmt} (hfd : fdOf Z.K fa = some fd) (hb : fd.body = .stmts b) (hg : fnGoodC Z.K fa y xs = true) (hl : vs.length = xs.length) (hn : (y :: xs).Nodup) (ho : BindOk fd (y :: xs))
    (hcl : ∀ L, cellsFrom L fd.scope.names [] = [(y, L)])
    (hB : ∀ f K c, Ok Z ⟨fd.qualname, fd.scope, fa, fd.code, [(y, c)]⟩ f k → (∀ {r led' ex rest}, Split led' ex rest → P r ex → K r led') → ExOk Z ⟨fd.qualname, fd.scope, fa, fd.code, [(y, c)]⟩ f ⟨xs.zip vs, .cell c v0 :: led⟩ b (RetK K)) : SpecC Z (k + 1) fa (v0 :: vs) led P := by
  rintro n f m A O hh hA hdp hun _ ⟨v0', vs', rfl, hv0, hv⟩ R hR s hs
  unfold fnGoodC at hg
  rw [hfd] at hg
  simp only [Bool.and_eq_true] at hg
  obtain ⟨⟨⟨⟨⟨⟨⟨⟨g1, g2⟩, g3⟩, g4⟩, g5⟩, g6⟩, g7⟩, g8⟩, g9⟩ := hg
  obtain ⟨o, hlo, hd⟩ := fdOf_is hfd
  obtain ⟨name, qual, params, body, scope, globals, closure, dV, kV, doc, pm, an, cdv, ct, bu⟩ := fd
  dsimp only at *
  cases hb
  have e1 := eq_of_beq g1
  have e2 := eq_of_beq g2
  have e3 := List.isEmpty_iff.mp g3
  subst e1 e2 e3
  obtain ⟨h, tk, m', c, rfl, F, lm, N, X, nd⟩ := hs
  have XK := O.X.keeps F.keep
  have hlen : vs'.length = xs.length := (vsAre_len hv).trans hl
  have hfst : (xs.zip vs').map (·.1) = xs := zip_fst hlen
  have hloc : ∀ q ∈ xs.zip vs', scope.names.lookup q.1 = some .local := fun q hq => of_decide_eq_true (List.all_eq_true.mp g4 _ (by rw [← hfst]; exact List.mem_map.mpr ⟨q, hq, rfl⟩))
  have hbd : bindArgs _ ⟨v0' :: vs', []⟩ = pure ((y, v0') :: xs.zip vs') := ho.zip (by rw [List.length_cons, List.length_cons, hlen])
  have hyc := of_decide_eq_true g5
  have hn' := List.nodup_cons.mp hn
  refine callX_cells O.B F N O.T.nolimit hA rfl O.fk (XK _ _ hlo) hd (codeRec_of XK g9) (by omega) (BindsTo.of_eq hbd) (fun L x hx => ?_) (by rw [hcl]; simp) ?_ (eq_of_beq g6) (eq_of_beq g7) (of_decide_eq_true g8)
  · rcases List.mem_cons.mp hx with rfl | hx
    · exact .inr ⟨hyc, by rw [hcl, List.lookup_cons_self]; rfl⟩
    · exact .inl (hloc x hx)
  · intro g L' h₁ tk' cells FG F' N' Y B' st' hlt
    rw [hcl] at Y
    obtain ⟨oc, rfl, hoc⟩ := CellsAre.one Y
    have hcv : oc.data = .cell (some v0') := by
      rw [hoc]
      have hk : (envOfC qual scope L' fa cdv).kindOf y ≠ some .local := by show scope.names.lookup y ≠ _; rw [hyc]; exact fun h => nomatch h
      show Data.cell (bindC _ (xs.zip vs') (if _ then _ else _) y) = _
      rw [if_neg hk, bindC_local hloc]
      exact congrArg Data.cell (if_pos rfl)
    obtain ⟨Ah, Ad, Af, Ag, Au⟩ := A
    dsimp only at hh hA hdp hun
    subst hh hA
    have hB' := hB { dp := Ad + 1, un := Au + 3, gd := Ag, L := L', outer := n.env f :: f.outer, A₀ := _, base := f.base, h₀ := g, own := f.own, sh := f.sh } (fun r led' => ∃ ex rest, Split led' ex rest ∧ P r ex) (L' + 1) ⟨B', O.X.keeps st', O.T.keeps st', of_decide_eq_true g8, by dsimp only; omega, by dsimp only; omega⟩ (fun h1 h2 => ⟨_, _, h1, h2⟩)
    have he : envOfC qual scope L' fa cdv = envX qual scope L' fa cdv [(y, L' + 1)] := by
      show envX qual scope L' fa cdv (cellsFrom (L' + 1) scope.names []) = _
      rw [hcl]
    rw [he]
    refine hB' _ _ ?_ _ ⟨h₁, _, _, (L' + 1, oc) :: c, rfl, F', ?_, N', ⟨[(L' + 1, oc)], c, rfl, ⟨oc, v0', rfl, hcv, hv0⟩, X⟩, ?_⟩
    · intro fl σ' hk fl' s' hf hs'
      obtain ⟨ex, rest, sp, hp⟩ := hk
      obtain ⟨h2, tk2, m2, c2, rfl, F2, lm2, N2, X2, nd2⟩ := At.drop (At.perm sp.perm hs')
      refine leaveK_ F2 N2 fun F3 N3 => hR fl.val ex hp _ _ ?_ ⟨h2, tk2, m', c2, rfl, F3, lm, N3, X2, nd2⟩
      cases fl with
      | ret v => obtain ⟨v', rfl, hv'⟩ := hf; exact hv'
      | _ => cases hf; rfl
    · intro x v hx
      obtain ⟨v', h1, h2⟩ := zip_lookup hv hx
      refine ⟨v', ?_, h2⟩
      have hk : (envOfC qual scope L' fa cdv).kindOf y ≠ some .local := by show scope.names.lookup y ≠ _; rw [hyc]; exact fun h => nomatch h
      show bindL _ (xs.zip vs') (if _ then _ else _) x = _
      rw [if_neg hk]
      exact bindL_in (by rw [hfst]; exact hn'.2) hloc h1
    · refine List.nodup_cons.mpr ⟨fun hm => ?_, nd⟩
      obtain ⟨q, hq, e⟩ := List.mem_map.mp hm
      have h1 : (q.1 : Nat) < L' := hlt q hq
      have h2 : (q.1 : Nat) = L' + 1 := e
      rw [h2] at h1
      exact absurd h1 (Nat.not_lt.mpr (Nat.le_succ _))
section
variable {Z : Wd} {n : Fn} {f : Frm} {σ : St} {k : Nat} {e o l r : Expr} {p pos : Pos} {x y : Str} {v : SV}
theorem tst_neB {K : Bool → St → Prop} (O : Ok Z n f k) (h : EvOk Z n f σ l fun v σ1 => ∃ a, v = .bool a ∧ EvOk Z n f σ1 r fun u σ2 => ∃ b, u = .bool b ∧ K (a != b) σ2) (hm : behindInMarks .NotEq r = false := by rfl) : TestOk Z n f σ (.Compare l [.NotEq] [r] pos) K := by
  refine fun _ _ R E hR s hs => wpAny_isTrue_Compare1 (h _ E (fun v σ1 hk v' s1 hv hs1 => ?_) s hs) hm
  obtain ⟨a, rfl, hk⟩ := hk
  refine hk _ E (fun u σ2 hk2 u' s2 hu hs2 => ?_) s1 hs1
  obtain ⟨b, rfl, hK⟩ := hk2
  cases hv
  cases hu
  exact EqBoolInt.of_rcne (SeqAt.RcNeAt.bool_bool a b) (wpAny_truthy_bool (hR _ _ hK _ _ (by cases a <;> cases b <;> rfl) hs2))
theorem tst_neI {K : Bool → St → Prop} (O : Ok Z n f k) (h : EvOk Z n f σ l fun v σ1 => ∃ a, v = .int a ∧ EvOk Z n f σ1 r fun u σ2 => ∃ b, u = .int b ∧ K (a != b) σ2) (hm : behindInMarks .NotEq r = false := by rfl) : TestOk Z n f σ (.Compare l [.NotEq] [r] pos) K := by
  refine fun _ _ R E hR s hs => wpAny_isTrue_Compare1 (h _ E (fun v σ1 hk v' s1 hv hs1 => ?_) s hs) hm
  obtain ⟨a, rfl, hk⟩ := hk
  refine hk _ E (fun u σ2 hk2 u' s2 hu hs2 => ?_) s1 hs1
  obtain ⟨b, rfl, hK⟩ := hk2
  obtain ⟨t, rfl⟩ := hv
  obtain ⟨t', rfl⟩ := hu
  exact ne_int (wpAny_truthy_bool (hR _ _ hK _ _ rfl hs2))
theorem tst_or {K : Bool → St → Prop} (h : TestOk Z n f σ l fun b σ1 => (b = true → K true σ1) ∧ (b = false → TestOk Z n f σ1 r K)) : TestOk Z n f σ (.BoolOp .Or [l, r] pos) K := by
  refine fun _ _ R E hR s hs => isTrue_or (h _ rfl _ E (fun b σ1 hk b' s1 hb hs1 => ?_) s hs)
  cases hb
  cases b with
  | true => rw [if_pos rfl]; exact hR _ _ (hk.1 rfl) _ _ rfl hs1
  | false =>
    rw [if_neg Bool.false_ne_true]
    refine isTrue_or (hk.2 rfl _ rfl _ E (fun c σ2 hk2 c' s2 hc hs2 => ?_) s1 hs1)
    cases hc
    cases c with
    | true => rw [if_pos rfl]; exact hR _ _ hk2 _ _ rfl hs2
    | false => rw [if_neg Bool.false_ne_true]; exact isTrue_or_nil (hR _ _ hk2 _ _ rfl hs2)
theorem tst_and {K : Bool → St → Prop} (h : TestOk Z n f σ l fun b σ1 => (b = false → K false σ1) ∧ (b = true → TestOk Z n f σ1 r K)) : TestOk Z n f σ (.BoolOp .And [l, r] pos) K := by
  refine fun _ _ R E hR s hs => isTrue_and (h _ rfl _ E (fun b σ1 hk b' s1 hb hs1 => ?_) s hs)
  cases hb
  cases b with
  | false => rw [if_neg Bool.false_ne_true]; exact hR _ _ (hk.1 rfl) _ _ rfl hs1
  | true =>
    rw [if_pos rfl]
    refine isTrue_and (hk.2 rfl _ rfl _ E (fun c σ2 hk2 c' s2 hc hs2 => ?_) s1 hs1)
    cases hc
    cases c with
    | false => rw [if_neg Bool.false_ne_true]; exact hR _ _ hk2 _ _ rfl hs2
    | true => rw [if_pos rfl]; exact isTrue_and_nil (hR _ _ hk2 _ _ rfl hs2)
theorem ev_sortedL {K : SV → St → Prop} (O : Ok Z n f k) (hx : n.cs.names.lookup (Str.ofString "sorted") = some .globalImplicit) (hn : noStar [e] = true) (h : EvOk Z n f σ e fun v σ1 => ∃ (a : Addr) (ns : List Int), v = .ref a ∧ .list a (ns.map .int) ∈ σ1.led ∧ ns.length < 64 ∧
      ∀ (D : Addr) (ms : List Int), ms.Perm ns → ms.Pairwise (· ≤ ·) → K (.ref D) ⟨σ1.m, .list D (ms.map .int) :: σ1.led⟩) : EvOk Z n f σ (.Call (.Name (Str.ofString "sorted") p) [e] [] pos) K := by
  refine fun R E hR s hs => Call_ (nameBuilt O hx (by decide) hs ?_)
  refine callWith_builtin1 (args_cons (h _ E (fun v σ1 hk v' s1 hv hs1 => args_nil ?_) s hs) (noStar_cons hn _).1) (noStar_cons hn _).1
  obtain ⟨a, ns, rfl, hm, hz, hK⟩ := hk
  cases hv
  obtain ⟨xs, h1, i1⟩ := hs1.isInts hm
  obtain ⟨h, tk, m, c, rfl, F, lm, N, X, nd⟩ := hs1
  exact kso_sorted F N h1 i1 hz fun D vs' ns' c' h' F' N' l1 hI _ hP hS _ => hR _ _ (hK D ns' hP hS) _ _ rfl (At.new F' lm N' l1 ⟨_, _, rfl, vsAre_ofInts hI⟩ X nd)
/-- two sorted lists of the same numbers -/
theorem sort_same : ∀ {a b : List Int}, a.Perm b → a.Pairwise (· ≤ ·) → b.Pairwise (· ≤ ·) → a = b := fun p h1 h2 => ksm_same p h1 h2
end
theorem nameG_B {s : Shared} {env : Env} {h₀ : Heap} {m : Str → Option Value} {A : Around} {E : Value → Shared → Prop} {M : Model} {K : Frag} {L : Addr} {mg mb : Str → Option Value} {p : Program} {loose : List Str} {x : Str} {pos : Pos} {v : Value} {Q : Value → Shared → Prop} (F : Fr h₀ L s.heap m) (X : K.In h₀) (T : TopRead p loose mg mb h₀)
    (e : nsIn K mainGlobals x = some none) (hv : bootBuiltins x = some v) (hn : x ≠ "__name__") (h : Q v s) (hg : env.globals = mainGlobals) (hb : env.builtins = builtinsNs) (hk : env.scope.kind = .function) (hx : env.kindOf x = some .globalImplicit) (hd : (x == ("__debug__" : Str)) = false) :
    wpAny M A (eval (.Name x pos) env) Q E s :=
  PySem.Calls.Name_function_global hk hx (PySem.Calls.loadGlobal_builtin (env := env) (by rw [hg]; exact T.g.keeps F.keep) (mg_none_of X T.g e) (by rw [hb]; exact T.b.keeps F.keep) ((T.builtins x hn).trans hv) h) hd
section
variable {Z : Wd} {n : Fn} {f : Frm} {σ : St} {k j : Nat} {x : Str} {u v : SV} {scope : Scope} {cl : List (Str × Addr)} {C : Addr} {e l r o : Expr} {p pos : Pos}
theorem SpecH.call {H : Heap → Prop} {fa : Addr} {vs : List SV} {ex rst : List SE} {P : SV → List SE → Prop} {K : SV → St → Prop} (S : SpecH H Z j fa vs ex P) (hH : H f.h₀) (O : Ok Z n f k) (hj : j ≤ k) (sp : Split σ.led ex rst) (hK : ∀ r ex', P r ex' → K r ⟨σ.m, ex' ++ rst⟩) : CallOk Z n f σ (.ref fa) vs K := by
  intro vs' hv R E hR s hs
  obtain ⟨c2, X2, hs'⟩ := At.put (At.perm sp.perm hs)
  have O' := O.le hj
  refine wpAny_call (S n { f with own := c2 ++ f.own } σ.m (n.A f) hH ⟨O.B, O.X, O.T, O.fk, (O.le (Nat.zero_le _)).dp, (O.le (Nat.zero_le _)).un⟩ rfl rfl O'.dp O'.un vs' hv _ (fun r led' hp r' s' hr hs2 => ?_) s hs')
  exact hR r _ (hK r led' hp) r' s' hr (At.back X2 hs2)
/-- a list of the base heap -/
def BaseL (a : Addr) (ns : List Int) (h : Heap) : Prop := ∃ vs : List Value, h.IsList a vs.toArray ∧ IntsAre vs ns
theorem BaseL.stays {a : Addr} {ns : List Int} {h g : Heap} (st : h.StaysIn g) : BaseL a ns h → BaseL a ns g := by
  rintro ⟨vs, hl, hi⟩
  exact ⟨vs, hl.at fun o e => st _ o e, hi⟩
theorem BaseL.at {a : Addr} {ns : List Int} (h : BaseL a ns f.h₀) {s : Shared} (hs : At Z f σ s) : ∃ vs : List Value, s.heap.IsList a vs.toArray ∧ IntsAre vs ns := by
  obtain ⟨vs, hl, hi⟩ := h
  obtain ⟨h, tk, m, c, rfl, F, lm, N, X, nd⟩ := hs
  exact ⟨vs, hl.at fun o e => F.keep _ o e, hi⟩
theorem ev_sliceH {lo hi : Option Expr} {i i2 : Option Int} {sp : Pos} {a : Addr} {ns : List Int} {K : SV → St → Prop} (O : Ok Z n f k) (hb : BaseL a ns f.h₀) (ho : PE n σ o (.ref a)) (h1 : PEo n σ lo i) (h2 : PEo n σ hi i2) (hz : ns.length ≤ 100000) (hK : ∀ D, K (.ref D) ⟨σ.m, .list D (pick (ns.map .int) i i2) :: σ.led⟩) : EvOk Z n f σ (.Subscript o (.Slice lo hi none sp) pos) K := by
  refine fun R E hR s hs => Subscript_ (ho.sound O (fun o' s1 hao hs1 => ?_) hs)
  cases hao
  refine wpAny_Slice (h1.sound O (fun v1 s2 hv1 hs2 => h2.sound O (fun v2 s3 hv2 hs3 => wpAny_pure ?_) hs2) hs1)
  obtain ⟨vs', hil, hi⟩ := hb.at hs3
  have hv := vsAre_ofInts hi
  obtain ⟨h, tk, m, c, rfl, F, lm, N, X, nd⟩ := hs3
  exact kba_turn (value' := .Name (Str.ofString "x") default) (fun _ => rfl) (kms_slice_lit F N hil hv1 hv2 rfl (fun D h' F' N' l1 => hR _ _ (hK D) _ _ rfl (At.new F' lm N' l1 ⟨_, _, rfl, vsAre_pick hv i i2⟩ X nd)) rfl (fun _ => rfl) (by rw [List.size_toArray, vsAre_len hv, List.length_map, sizeLine_eq]; omega))
theorem ev_lenH {a : Addr} {ns : List Int} {K : SV → St → Prop} (O : Ok Z n f k) (hx : n.cs.names.lookup (Str.ofString "len") = some .globalImplicit) (hb : BaseL a ns f.h₀) (ho : PE n σ e (.ref a)) (hz : ns.length ≤ 100000) (hK : K (.int ns.length) σ) : EvOk Z n f σ (.Call (.Name (Str.ofString "len") p) [e] [] pos) K := by
  refine fun R E hR s hs => Call_ (nameBuilt O hx (by decide) hs ?_)
  refine callWith_builtin1 (args_cons (ho.sound O (fun a s1 ha hs1 => args_nil ?_) hs) (ho.star _ _)) (ho.star _ _)
  cases ha
  obtain ⟨vs', hl', hi⟩ := hb.at hs1
  have hlen := hi.length
  refine call_len_list hl' (by rw [List.size_toArray]; omega) (hR _ _ hK _ _ ⟨_, by rw [List.size_toArray, hlen]⟩ hs1.tok)
theorem ev_lenE {K : SV → St → Prop} (O : Ok Z n f k) (hx : n.cs.names.lookup (Str.ofString "len") = some .globalImplicit) (hn : noStar [e] = true) (h : EvOk Z n f σ e fun v σ1 => ∃ (a : Addr) (N : Int), v = .ref a ∧ LenIs σ1.led a N ∧ N ≤ 1000000 ∧ K (.int N) σ1) : EvOk Z n f σ (.Call (.Name (Str.ofString "len") p) [e] [] pos) K := by
  refine fun R E hR s hs => Call_ (nameBuilt O hx (by decide) hs ?_)
  refine callWith_builtin1 (args_cons (h _ E (fun v σ1 hk v' s1 hv hs1 => args_nil ?_) s hs) (noStar_cons hn _).1) (noStar_cons hn _).1
  obtain ⟨a, N, rfl, hm, hl, hK⟩ := hk
  cases hv
  obtain ⟨vs', hl', hv⟩ := hs1.lenIs hm
  refine call_len_list hl' (by rw [List.size_toArray]; omega) (hR _ _ hK _ _ ⟨_, by rw [List.size_toArray, hv]⟩ hs1.tok)
/-- abs(..) in a comprehension -/
theorem el_abs {K : SV → St → Prop} {q : Int} (O : Ok Z n f k) (hkind : scope.kind = .function) (hx : scope.names.lookup x = some .local) (hd : (x == Str.ofString "__debug__") = false) (hin : InC f.own C x u) (ha : relK n scope (Str.ofString "abs") = some .globalImplicit) (h : CE n scope cl x u σ e (.int q)) (hK : K (.int (if q < 0 then -q else q)) σ) :
    EvV Z n f σ (eval (.Call (.Name (Str.ofString "abs") p) [e] [] pos) (compEnvC scope cl C (n.env f))) K := by
  intro R E hR s hs
  have hb := List.all_eq_true.mp (built_all Z.w.params) "abs" (by decide)
  simp only [Bool.and_eq_true, Bool.not_eq_true'] at hb
  obtain ⟨⟨⟨h1, h2⟩, h3⟩, h4⟩ := hb
  have hs0 := hs
  obtain ⟨h', tk, m, c, rfl, F, lm, N, X, nd⟩ := hs
  refine Call_ (nameG_B F O.X (topRead_of O.T) (eq_of_beq h1) (eq_of_beq h2) (beq_eq_false_iff_ne.mp h3) ?_ rfl rfl hkind ha h4) (by rfl)
  refine callWith_builtin1 (args_cons (h.sound O hkind hx hd hin (fun v' s1 hv hs1 => args_nil ?_) hs0) (h.star _ _)) (h.star _ _)
  obtain ⟨t, rfl⟩ := hv
  exact call_abs_int fun u' tk' => hR _ _ hK _ _ ⟨u', rfl⟩ hs1.tok
/-- a test against a number in a comprehension -/
theorem tests_lt {K : Bool → St → Prop} {q i : Int} {kk : Nat} {cp : Pos} (O : Ok Z n f k) (hkind : scope.kind = .function) (hx : scope.names.lookup x = some .local) (hd : (x == Str.ofString "__debug__") = false) (hin : InC f.own C x u) (h : CE n scope cl x u σ e (.int q)) (hK : K (decide (q < i)) σ) :
    EvB Z n f σ (testsOf [.Compare e [.Lt] [.Constant (.int i) kk cp] pos] (compEnvC scope cl C (n.env f))) K := by
  intro R E hR s hs
  refine wpAny_tests_one (wpAny_isTrue_Compare1 (h.sound O hkind hx hd hin (fun v' s1 hv hs1 => wpAny_Constant_int ?_) hs) rfl)
  obtain ⟨t, rfl⟩ := hv
  exact lt_int (wpAny_truthy_bool (hR _ _ hK _ _ rfl hs1.tok))
end
inductive Snoc {α : Type} (q : α) : List α → List α → Prop
  | nil : Snoc q [] [q]
  | cons {a l l'} : Snoc q l l' → Snoc q (a :: l) (a :: l')
theorem Snoc.eq {α : Type} {q : α} {l l' : List α} (h : Snoc q l l') : l' = l ++ [q] := by
  induction h with
  | nil => rfl
  | cons _ ih => rw [ih]; rfl
section
variable {Z : Wd} {n : Fn} {f : Frm} {σ : St} {k : Nat} {pos : Pos} {e : Expr} {K : SV → St → Prop}
theorem ev_dict (O : Ok Z n f k) (hK : ∀ R, K (.ref R) ⟨σ.m, .rows R [] :: σ.led⟩) : EvOk Z n f σ (.Dict [] [] pos) K := by
  rintro R E hR s ⟨h, tk, m, c, rfl, F, lm, N, X, nd⟩
  exact newDict_K F N O.T.nolimit fun d h' o F' N' l1 lo _ _ hd _ => hR _ _ (hK d) _ _ rfl (At.new F' lm N' l1 ⟨o, [], rfl, hd, ⟨.refl _, List.nodup_nil⟩, lo⟩ X nd)
theorem ev_num (h : EvOk Z n f σ e fun v σ1 => ∃ i, v = .int i ∧ K .num σ1) : EvOk Z n f σ e K :=
  fun R E hR s hs => h R E (fun v σ1 hk v' s1 hv hs1 => by
    obtain ⟨i, rfl, hK⟩ := hk
    obtain ⟨t, rfl⟩ := hv
    exact hR _ _ hK _ _ ⟨i, t, rfl⟩ hs1) s hs
theorem Weak.anyL {m : List (Str × SV)} {l : List SE} {a : Addr} {vs : List SV} : Weak Z ⟨m, .list a vs :: l⟩ ⟨m, .anyL a vs.length :: l⟩ :=
  Weak.exp fun c h => by
    obtain ⟨c1, c2, rfl, ⟨vs', q, rfl, hv⟩, X⟩ := h
    exact ⟨_, ⟨_, c2, rfl, ⟨vs', q, rfl, by rw [vsAre_len hv]⟩, X⟩, .refl _⟩
theorem putS_new {x : Str} {v : SV} : ∀ {es : List (Str × SV)}, (es.all fun q => !(q.1 == x)) = true → putS x v es = es ++ [(x, v)]
  | [], _ => rfl
  | q :: r, h => by
    rw [List.all_cons, Bool.and_eq_true, Bool.not_eq_true'] at h
    unfold putS
    rw [h.1, if_neg Bool.false_ne_true, putS_new h.2]
    rfl
/-- an attribute that is new -/
theorem as_new {o : Expr} {x : Str} {p : Pos} {v : SV} {a C : Addr} {es es' : List (Str × SV)} {K : St → Prop} {led' : List SE} (O : Ok Z n f k) (ho : PE n σ o (.ref a)) (U : UpdE (.obj a C es) (.obj a C es') σ.led led') (he : Snoc (x, v) es es') (hx : attrOk C x = true) (hn : (es.all fun q => !(q.1 == x)) = true) (hK : K ⟨σ.m, led'⟩) (hl : es.length ≤ 100) : AsOk Z n f σ (.Attribute o x p) v K :=
  as_attr O ho (by rw [he.eq, ← putS_new hn] at U; exact U) hx hK hl
end
section
variable {Z : Wd} {n : Fn} {f : Frm} {σ : St} {k : Nat} {x : Str} {p : Pos} {v : SV}
/-- a cell stored into for the first time -/
theorem as_raw {K : St → Prop} {c : Addr} {o : Obj} {w : Option Value} {led' : List SE} (O : Ok Z n f k) (hx : n.cs.names.lookup x = some .cell) (hc : n.cl.lookup x = some c) (ho : o.data = .cell w) (U : UpdE (.raw c o) (.cell c v) σ.led led') (hK : K ⟨σ.m, led'⟩) : AsOk Z n f σ (.Name x p) v K := by
  rintro v' hv R E hR s ⟨h, tk, m, c, rfl, F, lm, N, X, nd⟩
  obtain ⟨pre, c1, post, rfl, hc1, hX⟩ := U.exp X
  cases (show c1 = [(_, o)] from hc1)
  simp only [List.append_assoc, List.cons_append, List.nil_append] at N nd hX
  have hd := upd_of nd
  exact assign_Name (storeX_C F N hc (updF_mk hd.1 hd.2) ho (fun h' o' F' N' ho' => hR () _ hK _ _ rfl ⟨h', _, m, _, rfl, F', lm, by simp only [List.append_assoc, List.cons_append]; exact N', hX _ ⟨o', v', rfl, ho', hv⟩, by simp only [List.append_assoc, List.cons_append]; exact nodup_set nd⟩) O.fk hx)
/-- a cell, set or not -/
def IsCell (c : Addr) (e : SE) : Prop := (∃ o w, e = .raw c o ∧ o.data = .cell w) ∨ ∃ u, e = .cell c u
theorem as_cellA {K : St → Prop} {c : Addr} {e : SE} {led' : List SE} (O : Ok Z n f k) (he : IsCell c e) (hx : n.cs.names.lookup x = some .cell) (hc : n.cl.lookup x = some c) (U : UpdE e (.cell c v) σ.led led') (hK : K ⟨σ.m, led'⟩) : AsOk Z n f σ (.Name x p) v K := by
  rcases he with ⟨o, w, rfl, ho⟩ | ⟨u, rfl⟩
  · exact as_raw O hx hc ho U hK
  · exact as_cell O hx hc U hK
end
/-- what a call of a lambda without parameters keeps to -/
theorem SpecC.lam {Z : Wd} {k : Nat} {F c' : Addr} {oc : Obj} {vsq : Array Value} {tq : Tok} {name qual : Str} {params : Arguments} {body : Expr} {scope : Scope} {clos : List (Str × Addr)} {pm ctv : Value} {led : List SE} {P : SV → List SE → Prop}
    (hF : .raw F (kla_obj name qual params body scope clos pm c' ctv) ∈ led) (hc : .raw c' oc ∈ led) (hd : oc.data = .fields vsq) (hq : vsq[1]? = some (.str qual tq))
    (hbind : bindArgs (kla_fn name qual params body scope clos pm (.ref c') ctv) ⟨[], []⟩ = pure []) (hco : scope.isCoroutine = false) (hgen : scope.isGenerator = false) (hk : scope.kind = .function) (hcell : ∀ x ∈ scope.names, x.2 ≠ .cell)
    (hB : ∀ f (K : SV → List SE → Prop), Ok Z ⟨qual, scope, F, .ref c', clos⟩ f k → (∀ {r led' ex rest}, Split led' ex rest → P r ex → K r led') → EvOk Z ⟨qual, scope, F, .ref c', clos⟩ f ⟨[], led⟩ body fun v σ => K v σ.led) : SpecC Z (k + 1) F [] led P := by
  rintro n f m A O hh hA hdp hun _ rfl R hR s hs
  obtain ⟨h, tk, m', c, rfl, Fm, lm, N, X, nd⟩ := hs
  have mF : (F, kla_obj name qual params body scope clos pm c' ctv) ∈ c := by
    obtain ⟨pre, c1, post, rfl, e⟩ := Exp.mem hF X
    cases (show c1 = [_] from e); simp
  have mc : (c', oc) ∈ c := by
    obtain ⟨pre, c1, post, rfl, e⟩ := Exp.mem hc X
    cases (show c1 = [_] from e); simp
  refine kla_code O.B Fm O.X N O.T hA rfl O.fk (List.mem_append_left _ mF) ⟨c', oc, vsq, tq, rfl, (N _ (List.mem_append_left _ mc)).1, hd, hq⟩ (by omega) hbind (by intro y hy; cases hy) ?_ hco hgen hk hcell
  intro g L' h₁ FG F' N' B' X' T'
  obtain ⟨Ah, Ad, Af, Ag, Au⟩ := A
  dsimp only at hh hA hdp hun
  subst hh hA
  refine hB { dp := Ad + 1, un := Au + 3, gd := Ag, L := L', outer := n.env f :: f.outer, A₀ := _, base := f.base, h₀ := g, own := f.own, sh := f.sh } (fun r led' => ∃ ex rest, Split led' ex rest ∧ P r ex) ⟨B', X', T', hk, by dsimp only; omega, by dsimp only; omega⟩ (fun h1 h2 => ⟨_, _, h1, h2⟩) _ _ ?_ _ ⟨h₁, _, _, c, rfl, F', fun x v hx => (nomatch hx), N', X, nd⟩
  intro v σ' hk2 v' s' hv hs'
  obtain ⟨ex, rest, sp, hp⟩ := hk2
  obtain ⟨h2, tk2, m2, c2, rfl, F2, lm2, N2, X2, nd2⟩ := At.drop (At.perm sp.perm hs')
  exact leaveK_ F2 N2 fun F3 N3 => hR v ex hp _ _ hv ⟨h2, tk2, m', c2, rfl, F3, lm, N3, X2, nd2⟩
theorem Split.all : ∀ l : List SE, Split l l []
  | [] => .nil
  | _ :: r => .cons .head (Split.all r)
theorem Split.all' : ∀ l : List SE, Split (l ++ []) l []
  | [] => .nil
  | _ :: r => .cons .head (Split.all' r)
section
variable {Z : Wd} {n : Fn} {f : Frm} {σ : St} {k j : Nat} {x : Str} {p pos : Pos} {rest : List Stmt}
/-- a try whose body returns -/
theorem ex_tryR {body orelse : List Stmt} {h0 : ExceptHandler} {hs : List ExceptHandler} {K : Fl → St → Prop} (h : ExOk Z n f σ body fun fl σ1 => ∃ v, fl = .ret v ∧ K (.ret v) σ1) : ExOk Z n f σ (.Try body (h0 :: hs) orelse [] pos :: rest) K := by
  refine ex_step fun R E hR s hs1 => wpAny_Try_except (h _ _ (fun fl σ1 hk fl' s1 hf hs2 => ?_) s hs1)
  obtain ⟨v, rfl, hK⟩ := hk
  obtain ⟨v', rfl, hv⟩ := hf
  exact hR (.ret v) σ1 hK _ _ ⟨v', rfl, hv⟩ hs2
/-- a call of a function object of the ledger, without arguments -/
theorem ev_fun0 {F : Addr} {oc : Value} {od : Option Addr} {fd : FuncData} {sl : Array (Option Value)} {K : SV → St → Prop} (O : Ok Z n f k) (ho : PE n σ (.Name x p) (.ref F)) (hm : .raw F ⟨oc, od, .func fd, sl⟩ ∈ σ.led) (h : CallOk Z n f σ (.ref F) [] K)
    (hc : eval (.Call (.Name x p) [] [] pos) (n.env f) = (do
      let fv ← eval (.Name x p) (n.env f)
      callWith pos fv [] (backTo pos (starEach [] (n.env f))) (backToKw pos (keywordEach [] (n.env f)))) := by rfl) : EvOk Z n f σ (.Call (.Name x p) [] [] pos) K := by
  refine fun R E hR s hs => Call_ (ho.sound O (fun v' s1 hv hs1 => ?_) hs) hc
  cases hv
  have hs2 := hs1
  obtain ⟨h', tk, m, c, rfl, F', lm, N, X, nd⟩ := hs1
  obtain ⟨pre, c1, post, rfl, e⟩ := Exp.mem hm X
  cases (show c1 = [_] from e)
  exact callWith_F0 ⟨oc, od, fd, sl, (N (F, ⟨oc, od, .func fd, sl⟩) (by simp)).1⟩ (h [] rfl R E hR _ hs2)
theorem told_spec {F : Addr} {oc : Value} {od : Option Addr} {fd : FuncData} {sl : Array (Option Value)} {ex : List SE} {P : SV → List SE → Prop} (S : SpecC Z j F [] ex P) (hm : .raw F ⟨oc, od, .func fd, sl⟩ ∈ ex) : SpecC Z (j + 1) 576 [.ref F] ex (fun r ex' => ∃ D v ex2, r = .ref D ∧ P v ex2 ∧ ex' = .list D [.str (Str.ofString "told"), v] :: ex2) := by
  refine SpecC.body rfl rfl rfl rfl (by decide) (fun _ => rfl) ?_
  intro f K O hK
  refine ex_tryR (ex_ret (ev_list (args_ev (ev_pe O (by repeat' (first | constructor | omega)) (args_ev (ev_fun0 O (by repeat' (first | constructor | omega)) hm (SpecC.call S O (Nat.le_refl _) (Split.all _) ?_)))))))
  intro r ex' hp
  exact args_nilE ⟨(Nat.le_of_ble_eq_true rfl), fun D => ⟨_, rfl, hK (ex := .list D [.str (Str.ofString "told"), r] :: ex') (rest := []) (Split.all' (.list D [.str (Str.ofString "told"), r] :: ex')) ⟨D, r, ex', rfl, hp, rfl⟩⟩⟩
end
section
variable {Z : Wd} {n : Fn} {f : Frm} {σ : St} {k : Nat} {m : List (Str × SV)} {l : List SE} {c P : Addr} {ps : Array Value} {params : Arguments} {body : Expr} {scope : Scope} {pos : Pos} {clos : List (Str × Addr)}
/-- a lambda met for the first time: its code goes into the table -/
theorem ev_lamN {K : SV → St → Prop} (O : Ok Z n f k) (hdef : defaultsOf params (n.env f) = ([], [])) (C : CodeHd f.h₀ c P) (hcd : n.ccd = .ref c) (ht : TriplesOk ps.toList) (hnf : codeAmong pos ps.toList = none) (hcl : closureFor scope (n.env f) = pure clos)
    (hK : ∀ F pm c' oc vs t ctv, oc.data = .fields vs → vs[1]? = some (.str ((n.env f).qual ++ "<lambda>") t) → K (.ref F) ⟨m, .raw F (kla_obj "<lambda>" ((n.env f).qual ++ "<lambda>") params body scope clos pm c' ctv) :: .raw c' oc :: .raw P (tabObj (ps ++ #[rawInt pos.line, rawInt pos.col, .ref c'])) :: l⟩) :
    EvOk Z n f ⟨m, .raw P (tabObj ps) :: l⟩ (.Lambda params body scope pos) K := by
  rintro R E hR s ⟨h, tk, m', _, rfl, F, lm, N, ⟨_, c2, rfl, rfl, X⟩, nd⟩
  have hd := upd_of (pre := []) nd
  refine kla_eval hdef (kla_nest F N O.T C hcd (updF_mk (pre := []) hd.1 hd.2) ht hnf hcl fun F' c' oc vs t ctv h' tk' Fr' N' d1 d2 l1 l2 => ?_)
  refine hR _ _ (hK F' _ c' oc vs t ctv d1 d2) _ _ rfl ⟨h', tk', m', (F', _) :: (c', oc) :: (P, _) :: c2, rfl, Fr', lm, N', ⟨[_], _, rfl, rfl, ⟨[_], _, rfl, rfl, ⟨[_], _, rfl, rfl, X⟩⟩⟩, ?_⟩
  have lo : ∀ b : Nat, c' ≤ b → b ∉ (((P, tabObj ps) :: c2 ++ f.own).map (·.1)) := fun b hb hm => by
    obtain ⟨q, hq, e⟩ := List.mem_map.mp hm
    have h1 : (q.1 : Nat) < c' := l1 q hq
    have h2 : (q.1 : Nat) = b := e
    rw [h2] at h1
    exact absurd h1 (Nat.not_lt.mpr hb)
  refine List.nodup_cons.mpr ⟨fun hm => ?_, List.nodup_cons.mpr ⟨lo c' (Nat.le_refl _), nd⟩⟩
  rcases List.mem_cons.mp hm with e | hm
  · exact absurd (show (F' : Nat) = c' from e) (Nat.ne_of_gt l2)
  · exact lo F' (Nat.le_of_lt l2) hm
/-- a lambda met again -/
theorem ev_lamA {K : SV → St → Prop} {c' : Addr} (O : Ok Z n f k) (hdef : defaultsOf params (n.env f) = ([], [])) (C : CodeHd f.h₀ c P) (hcd : n.ccd = .ref c) (ht : TriplesOk ps.toList) (hf : codeAmong pos ps.toList = some (.ref c')) (hcl : closureFor scope (n.env f) = pure clos) (hm : .raw P (tabObj ps) ∈ l)
    (hK : ∀ F pm ctv, K (.ref F) ⟨m, .raw F (kla_obj "<lambda>" ((n.env f).qual ++ "<lambda>") params body scope clos pm c' ctv) :: l⟩) :
    EvOk Z n f ⟨m, l⟩ (.Lambda params body scope pos) K := by
  rintro R E hR s ⟨h, tk, m', c1, rfl, F, lm, N, X, nd⟩
  have hmem : (P, tabObj ps) ∈ c1 := by
    obtain ⟨pre, c3, post, rfl, e⟩ := Exp.mem hm X
    cases (show c3 = [_] from e); simp
  refine kla_eval hdef (kla_hit F N O.T C hcd (List.mem_append_left _ hmem) ht hf hcl fun F' ctv h' tk' Fr' N' l1 => ?_)
  exact hR _ _ (hK F' _ ctv) _ _ rfl (At.new (σ := ⟨m, l⟩) Fr' lm N' l1 rfl X nd)
end
abbrev gapE (G c : Addr) (gs ge : Int) : SE := .obj G 350 [(Str.ofString "room", .int 2), (Str.ofString "cells", .ref c), (Str.ofString "gap_start", .int gs), (Str.ofString "gap_end", .int ge)]
abbrev gapL (G c : Addr) (gs ge N : Int) : List SE := [gapE G c gs ge, .anyL c N]
section
variable {Z : Wd} {G c : Addr} {gs ge N : Int}
theorem size_spec (h : N ≤ 100000) : SpecC Z 1 284 [.ref G] (gapL G c gs ge N) (fun r ex' => r = .int (N - ge + gs) ∧ ex' = gapL G c gs ge N) := by
  refine SpecC.body rfl rfl rfl rfl (by decide) (fun _ => rfl) ?_
  intro f K O hK
  exact ex_ret (ev_pe O (by repeat' (first | constructor | omega)) (hK (by repeat' constructor) ⟨rfl, rfl⟩))
theorem move_spec {at_ : Int} (g : 0 ≤ gs ∧ gs ≤ ge ∧ ge ≤ N ∧ N ≤ 10000 ∧ 0 ≤ at_ ∧ at_ ≤ N - (ge - gs)) :
    SpecC Z 1 305 [.ref G, .int at_] (gapL G c gs ge N) (fun r ex' => ∃ ge' N', r = .none ∧ ex' = gapL G c at_ ge' N' ∧ ge' = at_ + (ge - gs) ∧ N' = N) := by
  refine SpecC.body rfl rfl rfl rfl (by decide) (fun _ _ => rfl) ?_
  intro f K O hK
  refine ex_ifd O (.lt (by repeat' (first | constructor | omega)) (by repeat' (first | constructor | omega))) (fun h => ?_) (fun h => ?_)
  · refine ex_assign (ev_sliceA O (by repeat' (first | constructor | omega)) (by repeat' (first | constructor | omega)) (by repeat' (first | constructor | omega)) (by repeat' (first | constructor | omega)) (by repeat' (first | constructor | omega)) fun D => as_loc O rfl ?_)
    refine ex_assign (ev_pe O (by repeat' (first | constructor | omega)) (as_cutA O (by repeat' (first | constructor | omega)) (by repeat' (first | constructor | omega)) (by repeat' (first | constructor | omega)) (by repeat' constructor) (by repeat' constructor) (by repeat' (first | constructor | omega)) ?_))
    refine ex_assign (ev_pe O (by repeat' (first | constructor | omega)) (as_attr O (by repeat' (first | constructor | omega)) (by repeat' constructor) rfl ?_))
    refine ex_nilS (ex_assign (ev_pe O (by repeat' (first | constructor | omega)) (as_attr O (by repeat' (first | constructor | omega)) (by repeat' constructor) rfl (ex_nil (hK (by repeat' constructor) ⟨_, _, rfl, rfl, ?_, ?_⟩))))) <;> omega
  · refine ex_assign (ev_sliceA O (by repeat' (first | constructor | omega)) (by repeat' (first | constructor | omega)) (by repeat' (first | constructor | omega)) (by repeat' (first | constructor | omega)) (by repeat' (first | constructor | omega)) fun D => as_loc O rfl ?_)
    refine ex_assign (ev_pe O (by repeat' (first | constructor | omega)) (as_cutA O (by repeat' (first | constructor | omega)) (by repeat' (first | constructor | omega)) (by repeat' (first | constructor | omega)) (by repeat' constructor) (by repeat' constructor) (by repeat' (first | constructor | omega)) ?_))
    refine ex_assign (ev_pe O (by repeat' (first | constructor | omega)) (as_attr O (by repeat' (first | constructor | omega)) (by repeat' constructor) rfl ?_))
    refine ex_nilS (ex_assign (ev_pe O (by repeat' (first | constructor | omega)) (as_attr O (by repeat' (first | constructor | omega)) (by repeat' constructor) rfl (ex_nil (hK (by repeat' constructor) ⟨_, _, rfl, rfl, ?_, ?_⟩))))) <;> omega
theorem widen_spec {wn : Int} (g : 0 ≤ gs ∧ gs ≤ ge ∧ ge ≤ N ∧ N ≤ 10000 ∧ 0 ≤ wn ∧ wn ≤ 10000) :
    SpecC Z 1 312 [.ref G, .int wn] (gapL G c gs ge N) (fun r ex' => ∃ ge' N', r = .none ∧ ex' = gapL G c gs ge' N' ∧ N' - ge' = N - ge ∧ ge ≤ ge' ∧ wn ≤ ge' - gs ∧ (ge' = ge ∨ ge' = gs + wn + 2)) := by
  refine SpecC.body rfl rfl rfl rfl (by decide) (fun _ _ => rfl) ?_
  intro f K O hK
  refine ex_assign (ev_pe O (by repeat' (first | constructor | omega)) (as_loc O rfl ?_))
  refine ex_ifd O (.gt (by repeat' (first | constructor | omega)) (by repeat' (first | constructor | omega))) (fun h => ?_) (fun h => ?_)
  · refine ex_assign (ev_mulA O (ev_listA (args_pe O (by repeat' (first | constructor | omega)) ⟨1, rfl, by decide, fun b => ⟨_, _, rfl, (by repeat' (first | constructor | omega)), (by repeat' constructor), ?_, ?_, fun D => as_cutA O (by repeat' (first | constructor | omega)) (by repeat' (first | constructor | omega)) (by repeat' (first | constructor | omega)) (by repeat' constructor) (by repeat' constructor) ?_ ?_⟩⟩)))
    · omega
    · omega
    · omega
    refine ex_assign (ev_pe O (by repeat' (first | constructor | omega)) (as_attr O (by repeat' (first | constructor | omega)) (by repeat' constructor) rfl (ex_nilS (ex_nil (hK (by repeat' constructor) ⟨_, _, rfl, rfl, ?_, ?_, ?_, ?_⟩))))) <;> omega
  · refine ex_nilS (ex_nil (hK (by repeat' constructor) ⟨_, _, rfl, rfl, ?_, ?_, ?_, ?_⟩)) <;> omega
theorem gins_spec {at_ W : Int} {D : Addr} (g : 0 ≤ gs ∧ gs ≤ ge ∧ ge ≤ N ∧ N ≤ 5000 ∧ 0 ≤ at_ ∧ at_ ≤ N - (ge - gs) ∧ 0 ≤ W ∧ W ≤ 1000) :
    SpecC Z 2 319 [.ref G, .int at_, .ref D] (.anyL D W :: gapL G c gs ge N) (fun r ex' => ∃ gs' ge' N', r = .none ∧ ex' = .anyL D W :: gapL G c gs' ge' N' ∧ 0 ≤ gs' ∧ gs' ≤ ge' ∧ ge' ≤ N' ∧ N' - (ge' - gs') = N - (ge - gs) + W ∧ N' ≤ N + W + 2) := by
  refine SpecC.body rfl rfl rfl rfl (by decide) (fun _ _ _ => rfl) ?_
  intro f K O hK
  refine ex_expr (ev_meth O (by repeat' (first | constructor | omega)) (by repeat' constructor) rfl rfl rfl (args_pe O (by repeat' (first | constructor | omega)) (SpecC.call (widen_spec ?_) O (by decide) (by repeat' constructor) ?_)))
  · omega
  rintro _ _ ⟨ge1, N1, rfl, rfl, h1, h2, h3, h4⟩
  refine ex_expr (ev_meth O (by repeat' (first | constructor | omega)) (by repeat' constructor) rfl rfl rfl (args_pe O (by repeat' (first | constructor | omega)) (SpecC.call (move_spec ?_) O (by decide) (by repeat' constructor) ?_)))
  · omega
  rintro _ _ ⟨ge2, N2, rfl, rfl, h5, h6⟩
  refine ex_assign (ev_pe O (by repeat' (first | constructor | omega)) (as_cutA O (by repeat' (first | constructor | omega)) (by repeat' (first | constructor | omega)) (by repeat' (first | constructor | omega)) (by repeat' constructor) (by repeat' constructor) ?_ ?_))
  · omega
  refine ex_assign (ev_pe O (by repeat' (first | constructor | omega)) (as_attr O (by repeat' (first | constructor | omega)) (by repeat' constructor) rfl (ex_nil (hK (by repeat' constructor) ⟨_, _, _, rfl, rfl, ?_, ?_, ?_, ?_, ?_⟩)))) <;> omega
theorem codes_spec {st en : Int} (g : 0 ≤ gs ∧ gs ≤ ge ∧ ge ≤ N ∧ N ≤ 10000 ∧ 0 ≤ st ∧ st ≤ en ∧ en ≤ N - (ge - gs)) :
    SpecC Z 1 298 [.ref G, .int st, .int en] (gapL G c gs ge N) (fun r ex' => ∃ D, r = .ref D ∧ ex' = gapL G c gs ge N) := by
  refine SpecC.body rfl rfl rfl rfl (by decide) (fun _ _ _ => rfl) ?_
  intro f K O hK
  refine ex_assign (ev_pe O (by repeat' (first | constructor | omega)) (as_loc O rfl ?_))
  refine ex_ifd O (.le (by repeat' (first | constructor | omega)) (by repeat' (first | constructor | omega))) (fun h => ?_) (fun h => ex_nilS ?_)
  · exact ex_ret (ev_sliceA O (by repeat' (first | constructor | omega)) (by repeat' constructor) (by repeat' (first | constructor | omega)) (by repeat' (first | constructor | omega)) (by repeat' (first | constructor | omega)) fun D => hK (by repeat' constructor) ⟨_, rfl, rfl⟩)
  refine ex_ifd O (.ge (by repeat' (first | constructor | omega)) (by repeat' (first | constructor | omega))) (fun h2 => ?_) (fun h2 => ex_nilS ?_)
  · exact ex_ret (ev_sliceA O (by repeat' (first | constructor | omega)) (by repeat' constructor) (by repeat' (first | constructor | omega)) (by repeat' (first | constructor | omega)) (by repeat' (first | constructor | omega)) fun D => hK (by repeat' constructor) ⟨_, rfl, rfl⟩)
  refine ex_ret (ev_catA O (ev_sliceA O (by repeat' (first | constructor | omega)) (by repeat' constructor) (by repeat' (first | constructor | omega)) (by repeat' (first | constructor | omega)) (by repeat' (first | constructor | omega)) fun D => ⟨_, rfl, ev_sliceA O (by repeat' (first | constructor | omega)) (by repeat' constructor) (by repeat' (first | constructor | omega)) (by repeat' (first | constructor | omega)) (by repeat' (first | constructor | omega)) fun D2 => ⟨_, _, _, rfl, (by repeat' constructor), (by repeat' constructor), ?_, fun D3 => hK (by repeat' constructor) ⟨_, rfl, rfl⟩⟩⟩))
  omega
theorem gdel_spec {st en : Int} (g : 0 ≤ gs ∧ gs ≤ ge ∧ ge ≤ N ∧ N ≤ 10000 ∧ 0 ≤ st ∧ st ≤ en ∧ en ≤ N - (ge - gs)) :
    SpecC Z 2 326 [.ref G, .int st, .int en] (gapL G c gs ge N) (fun r ex' => ∃ D gs' ge' N', r = .ref D ∧ ex' = gapL G c gs' ge' N' ∧ 0 ≤ gs' ∧ gs' ≤ ge' ∧ ge' ≤ N' ∧ N' = N ∧ ge' - gs' = ge - gs + (en - st)) := by
  refine SpecC.body rfl rfl rfl rfl (by decide) (fun _ _ _ => rfl) ?_
  intro f K O hK
  refine ex_assign (ev_meth O (by repeat' (first | constructor | omega)) (by repeat' constructor) rfl rfl rfl (args_pe O (by repeat' (first | constructor | omega)) (SpecC.call (codes_spec ?_) O (by decide) (by repeat' constructor) ?_)))
  · omega
  rintro _ _ ⟨D, rfl, rfl⟩
  refine as_loc O rfl ?_
  refine ex_ifd O (.lt (by repeat' (first | constructor | omega)) (by repeat' (first | constructor | omega))) (fun h => ?_) (fun h => ex_nilS ?_)
  · refine ex_expr (ev_meth O (by repeat' (first | constructor | omega)) (by repeat' constructor) rfl rfl rfl (args_pe O (by repeat' (first | constructor | omega)) (SpecC.call (move_spec ?_) O (by decide) (by repeat' constructor) ?_)))
    · omega
    rintro _ _ ⟨ge1, N1, rfl, rfl, h1, h2⟩
    refine ex_nilS (ex_ifd O (.gt (by repeat' (first | constructor | omega)) (by repeat' (first | constructor | omega))) (fun h => absurd h (by omega)) (fun h3 => ex_nilS ?_))
    refine ex_assign (ev_pe O (by repeat' (first | constructor | omega)) (as_attr O (by repeat' (first | constructor | omega)) (by repeat' constructor) rfl (ex_assign (ev_pe O (by repeat' (first | constructor | omega)) (as_attr O (by repeat' (first | constructor | omega)) (by repeat' constructor) rfl (ex_ret (ev_pe O (by repeat' (first | constructor | omega)) (hK (by repeat' constructor) ⟨_, _, _, _, rfl, rfl, ?_, ?_, ?_, ?_, ?_⟩)))))))) <;> omega
  refine ex_ifd O (.gt (by repeat' (first | constructor | omega)) (by repeat' (first | constructor | omega))) (fun h => ?_) (fun h3 => ex_nilS ?_)
  · refine ex_expr (ev_meth O (by repeat' (first | constructor | omega)) (by repeat' constructor) rfl rfl rfl (args_pe O (by repeat' (first | constructor | omega)) (SpecC.call (move_spec ?_) O (by decide) (by repeat' constructor) ?_)))
    · omega
    rintro _ _ ⟨ge1, N1, rfl, rfl, h1, h2⟩
    refine ex_nilS (ex_assign (ev_pe O (by repeat' (first | constructor | omega)) (as_attr O (by repeat' (first | constructor | omega)) (by repeat' constructor) rfl (ex_assign (ev_pe O (by repeat' (first | constructor | omega)) (as_attr O (by repeat' (first | constructor | omega)) (by repeat' constructor) rfl (ex_ret (ev_pe O (by repeat' (first | constructor | omega)) (hK (by repeat' constructor) ⟨_, _, _, _, rfl, rfl, ?_, ?_, ?_, ?_, ?_⟩))))))))) <;> omega
  refine ex_assign (ev_pe O (by repeat' (first | constructor | omega)) (as_attr O (by repeat' (first | constructor | omega)) (by repeat' constructor) rfl (ex_assign (ev_pe O (by repeat' (first | constructor | omega)) (as_attr O (by repeat' (first | constructor | omega)) (by repeat' constructor) rfl (ex_ret (ev_pe O (by repeat' (first | constructor | omega)) (hK (by repeat' constructor) ⟨_, _, _, _, rfl, rfl, ?_, ?_, ?_, ?_, ?_⟩)))))))) <;> omega
end
abbrev bufE (B G M LI : Addr) (pt bv zv : Int) (mk : SV) : SE := .obj B 456 [(Str.ofString "number", .int 1), (Str.ofString "name", .str (Str.ofString "b")), (Str.ofString "text", .ref G), (Str.ofString "markers", .ref M), (Str.ofString "point", .int pt), (Str.ofString "begv", .int bv), (Str.ofString "zv", .int zv), (Str.ofString "mark", mk),
  (Str.ofString "is_live", .bool true), (Str.ofString "is_read_only", .bool false), (Str.ofString "ticks", .num), (Str.ofString "codes_ticks", .num), (Str.ofString "saved_ticks", .num), (Str.ofString "listeners", .ref LI), (Str.ofString "undo", .none), (Str.ofString "props", .none), (Str.ofString "overlays", .none), (Str.ofString "locals", .none), (Str.ofString "syntax", .none), (Str.ofString "file", .none)]
abbrev mksE (M R : Addr) : SE := .obj M 182 [(Str.ofString "rows", .ref R)]
abbrev ringE (RG RL : Addr) (most last : Int) : SE := .obj RG 210 [(Str.ofString "most", .int most), (Str.ofString "markers", .ref RL), (Str.ofString "last", .int last)]
section
variable {Z : Wd} {B G M LI R c : Addr} {pt bv zv gs ge N : Int} {mk : SV}
theorem bsize_spec (h : N ≤ 100000) : SpecC Z 2 404 [.ref B] (bufE B G M LI pt bv zv mk :: gapL G c gs ge N) (fun r ex' => r = .int (N - ge + gs) ∧ ex' = bufE B G M LI pt bv zv mk :: gapL G c gs ge N) := by
  refine SpecC.body rfl rfl rfl rfl (by decide) (fun _ => rfl) ?_
  intro f K O hK
  refine ex_ret (ev_meth O (by repeat' (first | constructor | omega)) (by repeat' constructor) rfl rfl rfl (args_pe O (by repeat' (first | constructor | omega)) (SpecC.call (size_spec h) O (by decide) (by repeat' constructor) ?_)))
  rintro _ _ ⟨rfl, rfl⟩
  exact hK (by repeat' constructor) ⟨rfl, rfl⟩
theorem goto_spec {q : Int} : SpecC Z 1 425 [.ref B, .int q] [bufE B G M LI pt bv zv mk] (fun r ex' => r = .int (min (max q bv) zv) ∧ ex' = [bufE B G M LI (min (max q bv) zv) bv zv mk]) := by
  refine SpecC.body rfl rfl rfl rfl (by decide) (fun _ _ => rfl) ?_
  intro f K O hK
  exact ex_assign (ev_pe O (by repeat' (first | constructor | omega)) (as_attr O (by repeat' (first | constructor | omega)) (by repeat' constructor) rfl (ex_ret (ev_pe O (by repeat' (first | constructor | omega)) (hK (by repeat' constructor) ⟨rfl, rfl⟩)))))
theorem touch_spec : SpecC Z 1 453 [.ref B, .bool true] [bufE B G M LI pt bv zv mk] (fun r ex' => r = .none ∧ ex' = [bufE B G M LI pt bv zv mk]) := by
  refine SpecC.body rfl rfl rfl rfl (by decide) (fun _ _ => rfl) ?_
  intro f K O hK
  refine ex_assign (ev_pe O (.addN (by repeat' (first | constructor | omega)) (by repeat' (first | constructor | omega))) (as_attr O (by repeat' (first | constructor | omega)) (by repeat' constructor) rfl ?_))
  exact ex_ifT O (.name (by repeat' (first | constructor | omega))) (ex_assign (ev_pe O (by repeat' (first | constructor | omega)) (as_attr O (by repeat' (first | constructor | omega)) (by repeat' constructor) rfl (ex_nilS (ex_nil (hK (by repeat' constructor) ⟨rfl, rfl⟩))))))
theorem marker_init {x : Addr} {num : Int} : SpecC Z 1 90 [.ref x, .int num, .bool false] [.obj x 114 []] (fun r ex' => r = .none ∧ ex' = [markE x num .none 0]) := by
  refine SpecC.body rfl rfl rfl rfl (by decide) (fun _ _ _ => rfl) ?_
  intro f K O hK
  refine ex_assign (ev_pe O (by repeat' (first | constructor | omega)) (as_attr O (by repeat' (first | constructor | omega)) (by repeat' constructor) rfl ?_))
  refine ex_assign (ev_pe O (by repeat' (first | constructor | omega)) (as_attr O (by repeat' (first | constructor | omega)) (by repeat' constructor) rfl ?_))
  refine ex_assign (ev_pe O (by repeat' (first | constructor | omega)) (as_attr O (by repeat' (first | constructor | omega)) (by repeat' constructor) rfl ?_))
  exact ex_assign (ev_pe O (by repeat' (first | constructor | omega)) (as_attr O (by repeat' (first | constructor | omega)) (by repeat' constructor) rfl (ex_nil (hK (by repeat' constructor) ⟨rfl, rfl⟩))))
theorem put_spec {l l' : List (Int × Addr)} {a : Addr} {num pos q : Int} {b : SV} (hl : ((num, a) ∈ l ∧ l' = l) ∨ (num ∉ l.map (·.1) ∧ l' = (num, a) :: l)) (hz : l.length ≤ 1000) :
    SpecC Z 1 144 [.ref M, .ref a, .int q] [mksE M R, .rows R l, markE a num b pos] (fun r ex' => r = .none ∧ ex' = [mksE M R, .rows R l', markE a num b q]) := by
  refine SpecC.body rfl rfl rfl rfl (by decide) (fun _ _ _ => rfl) ?_
  intro f K O hK
  refine ex_assign (ev_pe O (by repeat' (first | constructor | omega)) (as_row O (by repeat' (first | constructor | omega)) (by repeat' (first | constructor | omega)) (by repeat' constructor) hl hz ?_))
  exact ex_assign (ev_pe O (by repeat' (first | constructor | omega)) (as_attr O (by repeat' (first | constructor | omega)) (by repeat' constructor) rfl (ex_nil (hK (by repeat' constructor) ⟨rfl, rfl⟩))))
theorem drop_spec {l0 l : List (Int × Addr)} {a : Addr} {num pos : Int} {b : SV} (hl : l0.Perm ((num, a) :: l)) (hz : l0.length ≤ 1000) :
    SpecC Z 1 151 [.ref M, .ref a] [mksE M R, .rows R l0, markE a num b pos] (fun r ex' => r = .none ∧ ex' = [mksE M R, .rows R l, markE a num b pos]) := by
  refine SpecC.body rfl rfl rfl rfl (by decide) (fun _ _ => rfl) ?_
  intro f K O hK
  exact ex_ifT O (.inR (by repeat' (first | constructor | omega)) (by repeat' (first | constructor | omega)) (by repeat' constructor) (hl.mem_iff.mpr (.head _))) (ex_expr (ev_pop O (by repeat' (first | constructor | omega)) (by repeat' (first | constructor | omega)) (by repeat' constructor) hl hz (ex_nilS (ex_nil (hK (by repeat' constructor) ⟨rfl, rfl⟩)))))
end
def Mark.mv (g : Int → Int) (q : Mark) : Mark := { q with pos := g q.pos }
def Mark.mvS (g : Int → Int) (S : List Int) (q : Mark) : Mark := if q.num ∈ S then q.mv g else q
def Mark.key (q : Mark) : Int × Addr := (q.num, q.a)
def fI (st en : Int) (p : Int) : Int := if p > st then p + en - st else p
def fD (st en : Int) (p : Int) : Int := if p > en then p - (en - st) else if p > st then st else p
theorem mvS_off {g : Int → Int} {S : List Int} {u : Int} {l : List Mark} (h : ∀ q ∈ l, q.num ≠ u) : l.map (Mark.mvS g (S ++ [u])) = l.map (Mark.mvS g S) := by
  refine List.map_congr_left fun q hq => ?_
  unfold Mark.mvS
  by_cases hS : q.num ∈ S
  · rw [if_pos hS, if_pos (List.mem_append_left _ hS)]
  · rw [if_neg hS, if_neg]
    intro hm
    rcases List.mem_append.mp hm with h1 | h1
    · exact hS h1
    · exact h q hq (List.mem_singleton.mp h1)
theorem marks_split {g : Int → Int} {S : List Int} {q : Mark} {x y : List Mark} (hn : ((x ++ q :: y).map (·.num)).Nodup) (hS : q.num ∉ S) :
    (x ++ q :: y).map (Mark.mvS g S) = x.map (Mark.mvS g S) ++ q :: y.map (Mark.mvS g S) ∧
    (x ++ q :: y).map (Mark.mvS g (S ++ [q.num])) = x.map (Mark.mvS g S) ++ q.mv g :: y.map (Mark.mvS g S) := by
  have e1 : Mark.mvS g S q = q := if_neg hS
  refine ⟨by rw [List.map_append, List.map_cons, e1], ?_⟩
  rw [List.map_append, List.map_cons] at hn
  have hn' := List.nodup_append.mp hn
  have h1 : ∀ j ∈ x, j.num ≠ q.num := fun j hj => hn'.2.2 _ (List.mem_map.mpr ⟨j, hj, rfl⟩) _ (.head _)
  have h2 : ∀ j ∈ y, j.num ≠ q.num := fun j hj e => (List.nodup_cons.mp hn'.2.1).1 (e ▸ List.mem_map.mpr ⟨j, hj, rfl⟩)
  rw [List.map_append, List.map_cons, mvS_off h1, mvS_off h2]
  congr 2
  exact if_pos (List.mem_append_right _ (.head _))
/-- where the i-th number's marker stands -/
theorem turn_mark {g : Int → Int} {ms : List Mark} {ns : List Int} {i : Nat} {v : SV} (hn : (ms.map (·.num)).Nodup) (hp : ns.Perm (ms.map (·.num))) (hi : (ns.map SV.int)[i]? = some v) :
    ∃ q x y, v = .int q.num ∧ q ∈ ms ∧ ms.map (Mark.mvS g (ns.take i)) = x ++ q :: y ∧ ms.map (Mark.mvS g (ns.take (i + 1))) = x ++ q.mv g :: y := by
  rw [List.getElem?_map] at hi
  obtain ⟨u, hu, rfl⟩ := Option.map_eq_some_iff.mp hi
  have hm : u ∈ ms.map (·.num) := hp.mem_iff.mp (List.mem_of_getElem? hu)
  obtain ⟨q, hq, rfl⟩ := List.mem_map.mp hm
  obtain ⟨x, y, rfl⟩ := List.append_of_mem hq
  have hnd : ns.Nodup := hp.nodup_iff.mpr hn
  obtain ⟨hlt, he⟩ := List.getElem?_eq_some_iff.mp hu
  have hS : q.num ∉ ns.take i := by
    intro h
    obtain ⟨j, hj, e⟩ := List.getElem_of_mem h
    rw [List.length_take] at hj
    rw [List.getElem_take] at e
    exact List.pairwise_iff_getElem.mp hnd j i (by omega) hlt (by omega) (e.trans he.symm)
  have ht : ns.take (i + 1) = ns.take i ++ [q.num] := by rw [List.take_succ, hu]; rfl
  obtain ⟨h1, h2⟩ := marks_split (g := g) hn hS
  exact ⟨q, _, _, rfl, hq, h1, by rw [ht]; exact h2⟩
theorem mvS_nil {g : Int → Int} {ms : List Mark} : ms.map (Mark.mvS g []) = ms := by
  conv => rhs; rw [← List.map_id ms]
  exact List.map_congr_left fun q _ => if_neg (by simp)
theorem mvS_all {g : Int → Int} {ms : List Mark} {ns : List Int} (hp : ns.Perm (ms.map (·.num))) : ms.map (Mark.mvS g (ns.take (ns.map SV.int).length)) = ms.map (Mark.mv g) := by
  rw [List.length_map, List.take_length]
  exact List.map_congr_left fun q hq => if_pos (hp.mem_iff.mpr (List.mem_map.mpr ⟨q, hq, rfl⟩))
theorem key_fst {ms : List Mark} : (ms.map Mark.key).map (·.1) = ms.map (·.num) := by rw [List.map_map]; rfl
section
variable {Z : Wd} {B M R : Addr} {ms : List Mark}
theorem numbers_spec {l : List (Int × Addr)} (h : l.length < 64) : SpecC Z 1 137 [.ref M] [mksE M R, .rows R l] (fun r ex' => ∃ (D : Addr) (ns : List Int), r = .ref D ∧ ns.Perm (l.map (·.1)) ∧ ns.Pairwise (· ≤ ·) ∧ ex' = [.list D (ns.map .int), mksE M R, .rows R l]) := by
  refine SpecC.body rfl rfl rfl rfl (by decide) (fun _ => rfl) ?_
  intro f K O hK
  exact ex_ret (ev_sorted O rfl (by repeat' (first | constructor | omega)) (by repeat' constructor) h fun D ns h1 h2 => hK (by repeat' constructor) ⟨D, ns, rfl, h1, h2, rfl⟩)
theorem inserted_spec {st en : Int} (hn : (ms.map (·.num)).Nodup) (hl : ms.length < 64) : SpecC Z 2 165 [.ref M, .int st, .int en, .bool false] [.marks B ms, mksE M R, .rows R (ms.map Mark.key)]
    (fun r ex' => r = .none ∧ ex' = [.marks B (ms.map (Mark.mv (fI st en))), mksE M R, .rows R (ms.map Mark.key)]) := by
  refine SpecC.body rfl rfl rfl rfl (by decide) (fun _ _ _ _ => rfl) ?_
  intro f K O hK
  refine ex_forL O rfl (ev_meth O (by repeat' (first | constructor | omega)) (by repeat' constructor) rfl rfl rfl (args_pe O (by repeat' (first | constructor | omega)) (SpecC.call (numbers_spec (l := ms.map Mark.key) (by rw [List.length_map]; exact hl)) O (by decide) (by repeat' constructor) ?_)))
  rintro _ _ ⟨D, ns, rfl, hp, hs, rfl⟩
  rw [key_fst] at hp
  refine ⟨D, ns.map .int, ⟨_, [.marks B ms, mksE M R, .rows R (ms.map Mark.key)]⟩, fun i τ => τ = ⟨[Str.ofString "self", Str.ofString "start", Str.ofString "end", Str.ofString "is_before"].zip [.ref M, .int st, .int en, .bool false], [.marks B (ms.map (Mark.mvS (fI st en) (ns.take i))), mksE M R, .rows R (ms.map Mark.key)]⟩, rfl, Weak.split (by repeat' constructor), by dsimp only; rw [List.take_zero, mvS_nil], ?_, ?_⟩
  · rintro i v τ g hi O' rfl
    obtain ⟨q, x, y, rfl, hq, e1, e2⟩ := turn_mark (g := fI st en) hn hp hi
    rw [e1]
    refine ex_assign (ev_pe O' (.row (by repeat' (first | constructor | omega)) (by repeat' constructor) (by repeat' (first | constructor | omega)) (List.mem_map.mpr ⟨q, hq, rfl⟩)) (as_loc O' rfl (ex_weak (Weak.out .head) ?_)))
    refine ex_if O' (.or (.gt (by repeat' (first | constructor | omega)) (by repeat' (first | constructor | omega))) (.and (.eq (by repeat' (first | constructor | omega)) (by repeat' (first | constructor | omega))) (.orF (.name (by repeat' (first | constructor | omega))) (.attr (by repeat' (first | constructor | omega)))))) (fun h => ?_) (fun h => ?_)
    · refine ex_assign (ev_pe O' (by repeat' (first | constructor | omega)) (as_attr O' (by repeat' (first | constructor | omega)) (by repeat' constructor) rfl (ex_nilS ?_)))
      refine ex_weak (Weak.inn (q := q.mv (fI st en)) (by rw [show (q.mv (fI st en)).pos = q.pos + en - st from if_pos (by simpa using h)]; exact .head) .head) (ex_weak (Weak.trans (Weak.loc rfl) (Weak.loc rfl)) (ex_nil ⟨.inl rfl, by dsimp only; rw [e2]⟩))
    · refine ex_nilS (ex_weak (Weak.inn (q := q.mv (fI st en)) (by rw [show (q.mv (fI st en)).pos = q.pos from if_neg (by simpa using h)]; exact .head) .head) (ex_weak (Weak.trans (Weak.loc rfl) (Weak.loc rfl)) (ex_nil ⟨.inl rfl, by dsimp only; rw [e2]⟩)))
  · rintro τ rfl
    rw [mvS_all hp]
    exact ex_nil (hK (by repeat' constructor) ⟨rfl, rfl⟩)
theorem deleted_spec {st en : Int} (hn : (ms.map (·.num)).Nodup) (hl : ms.length < 64) : SpecC Z 2 172 [.ref M, .int st, .int en] [.marks B ms, mksE M R, .rows R (ms.map Mark.key)]
    (fun r ex' => r = .none ∧ ex' = [.marks B (ms.map (Mark.mv (fD st en))), mksE M R, .rows R (ms.map Mark.key)]) := by
  refine SpecC.body rfl rfl rfl rfl (by decide) (fun _ _ _ => rfl) ?_
  intro f K O hK
  refine ex_forL O rfl (ev_meth O (by repeat' (first | constructor | omega)) (by repeat' constructor) rfl rfl rfl (args_pe O (by repeat' (first | constructor | omega)) (SpecC.call (numbers_spec (l := ms.map Mark.key) (by rw [List.length_map]; exact hl)) O (by decide) (by repeat' constructor) ?_)))
  rintro _ _ ⟨D, ns, rfl, hp, hs, rfl⟩
  rw [key_fst] at hp
  refine ⟨D, ns.map .int, ⟨_, [.marks B ms, mksE M R, .rows R (ms.map Mark.key)]⟩, fun i τ => τ = ⟨[Str.ofString "self", Str.ofString "start", Str.ofString "end"].zip [.ref M, .int st, .int en], [.marks B (ms.map (Mark.mvS (fD st en) (ns.take i))), mksE M R, .rows R (ms.map Mark.key)]⟩, rfl, Weak.split (by repeat' constructor), by dsimp only; rw [List.take_zero, mvS_nil], ?_, ?_⟩
  · rintro i v τ g hi O' rfl
    obtain ⟨q, x, y, rfl, hq, e1, e2⟩ := turn_mark (g := fD st en) hn hp hi
    rw [e1]
    refine ex_assign (ev_pe O' (.row (by repeat' (first | constructor | omega)) (by repeat' constructor) (by repeat' (first | constructor | omega)) (List.mem_map.mpr ⟨q, hq, rfl⟩)) (as_loc O' rfl (ex_weak (Weak.out .head) ?_)))
    refine ex_ifd O' (.gt (by repeat' (first | constructor | omega)) (by repeat' (first | constructor | omega))) (fun h => ?_) (fun h => ?_)
    · refine ex_assign (ev_pe O' (by repeat' (first | constructor | omega)) (as_attr O' (by repeat' (first | constructor | omega)) (by repeat' constructor) rfl (ex_nilS ?_)))
      refine ex_weak (Weak.inn (q := q.mv (fD st en)) (by rw [show (q.mv (fD st en)).pos = q.pos - (en - st) from if_pos h]; exact .head) .head) (ex_weak (Weak.trans (Weak.loc rfl) (Weak.loc rfl)) (ex_nil ⟨.inl rfl, by dsimp only; rw [e2]⟩))
    refine ex_ifd O' (.gt (by repeat' (first | constructor | omega)) (by repeat' (first | constructor | omega))) (fun h2 => ?_) (fun h2 => ?_)
    · refine ex_assign (ev_pe O' (by repeat' (first | constructor | omega)) (as_attr O' (by repeat' (first | constructor | omega)) (by repeat' constructor) rfl (ex_nilS (ex_nilS ?_))))
      refine ex_weak (Weak.inn (q := q.mv (fD st en)) (by rw [show (q.mv (fD st en)).pos = st from (if_neg h).trans (if_pos h2)]; exact .head) .head) (ex_weak (Weak.trans (Weak.loc rfl) (Weak.loc rfl)) (ex_nil ⟨.inl rfl, by dsimp only; rw [e2]⟩))
    · refine ex_nilS (ex_nilS (ex_weak (Weak.inn (q := q.mv (fD st en)) (by rw [show (q.mv (fD st en)).pos = q.pos from (if_neg h).trans (if_neg h2)]; exact .head) .head) (ex_weak (Weak.trans (Weak.loc rfl) (Weak.loc rfl)) (ex_nil ⟨.inl rfl, by dsimp only; rw [e2]⟩))))
  · rintro τ rfl
    rw [mvS_all hp]
    exact ex_nil (hK (by repeat' constructor) ⟨rfl, rfl⟩)
end
abbrev clip (place N ge gs : Int) : Int := min (max place 1) (N - ge + gs + 1)
section
variable {Z : Wd} {B G M LI R c a RG RL : Addr} {pt bv zv gs ge N num pos place most last : Int} {mk vb : SV} {l l' l0 : List (Int × Addr)}
theorem attach_spec (hb : vb = .none ∨ vb = .ref B) (hl : ((num, a) ∈ l ∧ l' = l) ∨ (num ∉ l.map (·.1) ∧ l' = (num, a) :: l)) (hz : l.length ≤ 1000) (hN : N ≤ 100000) :
    SpecC Z 3 193 [.ref a, .ref B, .int place] [markE a num vb pos, bufE B G M LI pt bv zv mk, mksE M R, .rows R l, gapE G c gs ge, .anyL c N]
      (fun r ex' => r = .none ∧ ex' = [markE a num (.ref B) (clip place N ge gs), bufE B G M LI pt bv zv mk, mksE M R, .rows R l', gapE G c gs ge, .anyL c N]) := by
  refine SpecC.body rfl rfl rfl rfl (by decide) (fun _ _ _ => rfl) ?_
  intro f K O hK
  refine ex_ifF O ?_ (ex_nilS ?_)
  · rcases hb with rfl | rfl
    · exact .andF (.notN (by repeat' (first | constructor | omega)) (by repeat' constructor))
    · exact .andT (.notN (by repeat' (first | constructor | omega)) (by repeat' constructor)) (.same (by repeat' (first | constructor | omega)) (by repeat' (first | constructor | omega)))
  refine ex_assign (ev_pe O (by repeat' (first | constructor | omega)) (as_attr O (by repeat' (first | constructor | omega)) (by repeat' constructor) rfl ?_))
  refine ex_ifF O (.isN (by repeat' (first | constructor | omega)) (by repeat' constructor)) ?_
  refine ex_expr (ev_meth O (by repeat' (first | constructor | omega)) (by repeat' constructor) rfl rfl rfl (args_ev (ev_pe O (by repeat' (first | constructor | omega)) (args_ev (ev_min O rfl rfl (ev_pe O (by repeat' (first | constructor | omega)) ⟨_, rfl, ev_add O (ev_meth O (by repeat' (first | constructor | omega)) (by repeat' constructor) rfl rfl rfl (args_nilE (SpecC.call (bsize_spec hN) O (by decide) (by repeat' constructor) ?_)))⟩))))))
  rintro _ _ ⟨rfl, rfl⟩
  refine ⟨_, rfl, ev_pe O (by repeat' (first | constructor | omega)) ⟨_, rfl, _, rfl, args_nilE (SpecC.call (put_spec hl hz) O (by decide) (by repeat' constructor) ?_)⟩⟩
  rintro _ _ ⟨rfl, rfl⟩
  exact ex_nilS (ex_nil (hK (by repeat' constructor) ⟨rfl, rfl⟩))
theorem detach_spec {q : Int} (hl : l0.Perm ((num, a) :: l)) (hz : l0.length ≤ 1000) :
    SpecC Z 3 193 [.ref a, .none, .int q] [markE a num (.ref B) pos, bufE B G M LI pt bv zv mk, mksE M R, .rows R l0]
      (fun r ex' => r = .none ∧ ex' = [markE a num .none 0, bufE B G M LI pt bv zv mk, mksE M R, .rows R l]) := by
  refine SpecC.body rfl rfl rfl rfl (by decide) (fun _ _ _ => rfl) ?_
  intro f K O hK
  refine ex_ifT O (.andT (.notN (by repeat' (first | constructor | omega)) (by repeat' constructor)) (.notNV (by repeat' (first | constructor | omega)) (by repeat' (first | constructor | omega)))) ?_
  refine ex_expr (ev_meth O (by repeat' (first | constructor | omega)) (by repeat' constructor) rfl rfl rfl (args_pe O (by repeat' (first | constructor | omega)) (SpecC.call (drop_spec hl hz) O (by decide) (by repeat' constructor) ?_)))
  rintro _ _ ⟨rfl, rfl⟩
  refine ex_nilS (ex_assign (ev_pe O (by repeat' (first | constructor | omega)) (as_attr O (by repeat' (first | constructor | omega)) (by repeat' constructor) rfl ?_)))
  exact ex_ifT O (.isN (by repeat' (first | constructor | omega)) (by repeat' constructor)) (ex_assign (ev_pe O (by repeat' (first | constructor | omega)) (as_attr O (by repeat' (first | constructor | omega)) (by repeat' constructor) rfl (ex_nilS (ex_nil (hK (by repeat' constructor) ⟨rfl, rfl⟩))))))
end
structure Fx where
  (B G c M R LI RG : Addr)
  most : Int
structure Vr where
  RL : Addr
  (pt bv zv gs ge N last : Int)
  k0 : Option Mark
  rs : List Mark
def Vr.mkv (v : Vr) : SV := match v.k0 with
  | none => .none
  | some q => .ref q.a
abbrev Vr.ms (v : Vr) : List Mark := v.k0.toList ++ v.rs
abbrev Vr.sz (v : Vr) : Int := v.N - v.ge + v.gs
abbrev sysL (x : Fx) (v : Vr) : List SE := [bufE x.B x.G x.M x.LI v.pt v.bv v.zv v.mkv, mksE x.M x.R, .rows x.R (v.ms.map Mark.key), .marks x.B v.ms, gapE x.G x.c v.gs v.ge, .anyL x.c v.N, ringE x.RG v.RL x.most v.last, .list v.RL (v.rs.map fun q => .ref q.a), .list x.LI []]
structure Inv (x : Fx) (v : Vr) : Prop where
  g : 0 ≤ v.gs ∧ v.gs ≤ v.ge ∧ v.ge ≤ v.N ∧ v.N ≤ 4000
  b : 1 ≤ v.bv ∧ v.bv ≤ v.zv ∧ v.zv ≤ v.sz + 1
  m : 0 ≤ x.most ∧ x.most ≤ 3
  len : (v.rs.length : Int) ≤ x.most
  num0 : ∀ q ∈ v.k0, q.num = 0
  nums : ∀ q ∈ v.rs, v.last ≤ q.num ∧ q.num < 0
  last : v.last ≤ 0
  nd : (v.rs.map (·.num)).Nodup
  pos : ∀ q ∈ v.ms, 1 ≤ q.pos ∧ q.pos ≤ v.sz + 1
theorem Inv.ms_len {x : Fx} {v : Vr} (I : Inv x v) : v.ms.length ≤ 4 := by
  have h1 := I.len
  have h2 := I.m
  have h3 : v.k0.toList.length ≤ 1 := by cases v.k0 <;> simp
  rw [List.length_append]
  omega
theorem Inv.ms_nd {x : Fx} {v : Vr} (I : Inv x v) : (v.ms.map (·.num)).Nodup := by
  rw [List.map_append]
  refine List.nodup_append.mpr ⟨?_, I.nd, ?_⟩
  · cases v.k0 <;> simp
  · intro a ha b hb e
    obtain ⟨q, hq, rfl⟩ := List.mem_map.mp ha
    obtain ⟨q', hq', rfl⟩ := List.mem_map.mp hb
    have h1 := I.num0 q (Option.mem_toList.mp hq)
    have h2 := (I.nums q' hq').2
    omega
def mkOf : Option Mark → SV
  | none => .none
  | some q => .ref q.a
abbrev midL (B G M LI R c : Addr) (pt bv zv gs ge N : Int) (k0 : Option Mark) (ot : List Mark) : List SE := [bufE B G M LI pt bv zv (mkOf k0), mksE M R, .rows R ((k0.toList ++ ot).map Mark.key), .marks B (k0.toList ++ ot), gapE G c gs ge, .anyL c N]
section
variable {Z : Wd} {B G M LI R c a RG RL : Addr} {pt bv zv gs ge N num pos place most last : Int} {mk vb : SV} {l l' l0 : List (Int × Addr)} {k0 : Option Mark} {ot : List Mark}
theorem set_spec (hz : (k0.toList ++ ot).length ≤ 1000) (hN : N ≤ 100000) (h0 : ∀ q ∈ ot, q.num ≠ 0) (hq0 : ∀ q ∈ k0, q.num = 0) :
    SpecC Z 4 221 [.ref B, .int place] (midL B G M LI R c pt bv zv gs ge N k0 ot) (fun r ex' => ∃ q : Mark, r = .none ∧ ex' = midL B G M LI R c pt bv zv gs ge N (some q) ot ∧ q.num = 0 ∧ q.pos = clip place N ge gs) := by
  have hz : ((k0.toList ++ ot).map Mark.key).length ≤ 1000 := by rw [List.length_map]; exact hz
  refine SpecC.body rfl rfl rfl rfl (by decide) (fun _ _ => rfl) ?_
  intro f K O hK
  cases k0 with
  | none =>
    refine ex_ifT O (.isN (by repeat' (first | constructor | omega)) (by repeat' constructor)) (ex_assign (ev_call O rfl rfl rfl rfl (args_pe O (by repeat' (first | constructor | omega)) (call_new (ex := []) O rfl (by decide) .nil (fun a => marker_init) ?_))))
    rintro a _ _ ⟨rfl, rfl⟩
    refine ⟨rfl, as_attr O (by repeat' (first | constructor | omega)) (by repeat' constructor) rfl (ex_nilS ?_)⟩
    refine ex_expr (ev_call O rfl rfl rfl rfl (args_pe O (by repeat' (first | constructor | omega)) (SpecC.call (attach_spec (.inl rfl) (.inr ⟨?_, rfl⟩) hz hN) O (by decide) (by repeat' constructor) ?_)))
    · intro h
      rw [key_fst] at h
      obtain ⟨q, hq, e⟩ := List.mem_map.mp h
      exact h0 q hq e
    rintro _ _ ⟨rfl, rfl⟩
    exact ex_weak (Weak.inn (q := ⟨a, 0, clip place N ge gs⟩) (x := []) (y := ot) (by repeat' constructor) (by repeat' constructor)) (ex_nil (hK (by repeat' constructor) ⟨⟨a, 0, clip place N ge gs⟩, rfl, rfl, rfl, rfl⟩))
  | some q =>
    obtain ⟨a, num, pos⟩ := q
    have e : num = 0 := hq0 _ rfl
    subst e
    refine ex_ifF O (.isN (by repeat' (first | constructor | omega)) (by repeat' constructor)) (ex_nilS (ex_weak (Weak.out (x := []) (y := ot) (by repeat' constructor)) ?_))
    refine ex_expr (ev_call O rfl rfl rfl rfl (args_pe O (by repeat' (first | constructor | omega)) (SpecC.call (attach_spec (.inr rfl) (.inl ⟨.head _, rfl⟩) hz hN) O (by decide) (by repeat' constructor) ?_)))
    rintro _ _ ⟨rfl, rfl⟩
    exact ex_weak (Weak.inn (q := ⟨a, 0, clip place N ge gs⟩) (x := []) (y := ot) (by repeat' constructor) (by repeat' constructor)) (ex_nil (hK (by repeat' constructor) ⟨⟨a, 0, clip place N ge gs⟩, rfl, rfl, rfl, rfl⟩))
theorem hasN_spec : SpecC Z 1 228 [.ref B] [bufE B G M LI pt bv zv .none] (fun r ex' => r = .bool false ∧ ex' = [bufE B G M LI pt bv zv .none]) := by
  refine SpecC.body rfl rfl rfl rfl (by decide) (fun _ => rfl) ?_
  intro f K O hK
  exact ex_ret (ev_pe O (.andF (.notN (by repeat' (first | constructor | omega)) (by repeat' constructor))) (hK (by repeat' constructor) ⟨rfl, rfl⟩))
theorem hasS_spec : SpecC Z 1 228 [.ref B] [bufE B G M LI pt bv zv (.ref a), markE a num (.ref B) pos] (fun r ex' => r = .bool true ∧ ex' = [bufE B G M LI pt bv zv (.ref a), markE a num (.ref B) pos]) := by
  refine SpecC.body rfl rfl rfl rfl (by decide) (fun _ => rfl) ?_
  intro f K O hK
  exact ex_ret (ev_pe O (.andT (.notN (by repeat' (first | constructor | omega)) (by repeat' constructor)) (.notN (by repeat' (first | constructor | omega)) (by repeat' constructor))) (hK (by repeat' constructor) ⟨rfl, rfl⟩))
theorem place_spec : SpecC Z 2 235 [.ref B] [bufE B G M LI pt bv zv (.ref a), markE a num (.ref B) pos] (fun r ex' => r = .int pos ∧ ex' = [bufE B G M LI pt bv zv (.ref a), markE a num (.ref B) pos]) := by
  refine SpecC.body rfl rfl rfl rfl (by decide) (fun _ => rfl) ?_
  intro f K O hK
  refine ex_ifG (tst_not (tst_call (ev_call O rfl rfl rfl rfl (args_pe O (by repeat' (first | constructor | omega)) (SpecC.call hasS_spec O (by decide) (by repeat' constructor) ?_)))))
  rintro _ _ ⟨rfl, rfl⟩
  exact ⟨true, rfl, fun h => (nomatch h), fun _ => ex_nilS (ex_ret (ev_pe O (by repeat' (first | constructor | omega)) (hK (by repeat' constructor) ⟨rfl, rfl⟩)))⟩
theorem ringm_spec (hl : last - 1 ∉ l.map (·.1)) (hz : l.length ≤ 1000) (hN : N ≤ 100000) : SpecC Z 4 242 [.ref RG, .ref B, .int place] [ringE RG RL most last, bufE B G M LI pt bv zv mk, mksE M R, .rows R l, gapE G c gs ge, .anyL c N]
    (fun r ex' => ∃ a, r = .ref a ∧ ex' = [markE a (last - 1) (.ref B) (clip place N ge gs), ringE RG RL most (last - 1), bufE B G M LI pt bv zv mk, mksE M R, .rows R ((last - 1, a) :: l), gapE G c gs ge, .anyL c N]) := by
  refine SpecC.body rfl rfl rfl rfl (by decide) (fun _ _ _ => rfl) ?_
  intro f K O hK
  refine ex_assign (ev_pe O (by repeat' (first | constructor | omega)) (as_attr O (by repeat' (first | constructor | omega)) (by repeat' constructor) rfl ?_))
  refine ex_assign (ev_call O rfl rfl rfl rfl (args_pe O (by repeat' (first | constructor | omega)) (call_new (ex := []) O rfl (by decide) .nil (fun a => marker_init) ?_)))
  rintro a _ _ ⟨rfl, rfl⟩
  refine ⟨rfl, as_loc O rfl ?_⟩
  refine ex_expr (ev_call O rfl rfl rfl rfl (args_pe O (by repeat' (first | constructor | omega)) (SpecC.call (attach_spec (.inl rfl) (.inr ⟨hl, rfl⟩) hz hN) O (by decide) (by repeat' constructor) ?_)))
  rintro _ _ ⟨rfl, rfl⟩
  exact ex_ret (ev_pe O (by repeat' (first | constructor | omega)) (hK (by repeat' constructor) ⟨a, rfl, rfl⟩))
end
theorem pick_to {α : Type} {l : List α} {m : Int} (h : 0 ≤ m) : pick l none (some m) = l.take m.toNat := by
  unfold pick kms_lo kms_hi
  dsimp only
  rw [if_neg (by omega), List.drop_zero, Nat.sub_zero, ← List.take_eq_take_min]
theorem pick_from {α : Type} {l : List α} {m : Int} (h : 0 ≤ m) : pick l (some m) none = l.drop m.toNat := by
  unfold pick kms_lo kms_hi
  dsimp only
  rw [if_neg (by omega)]
  by_cases e : m.toNat ≤ l.length
  · rw [Nat.min_eq_left e, List.take_of_length_le (by rw [List.length_drop]; omega)]
  · rw [Nat.min_eq_right (by omega), List.drop_of_length_le (Nat.le_refl _), List.drop_of_length_le (by omega), List.take_nil]
abbrev refs (l : List Mark) : List SV := l.map fun q => .ref q.a
theorem drop_step {l : List Mark} {i : Nat} {v : SV} (h : (refs l)[i]? = some v) : ∃ q, v = .ref q.a ∧ l.drop i = q :: l.drop (i + 1) := by
  rw [List.getElem?_map] at h
  obtain ⟨q, hq, rfl⟩ := Option.map_eq_some_iff.mp h
  obtain ⟨hlt, rfl⟩ := List.getElem?_eq_some_iff.mp hq
  exact ⟨_, rfl, List.drop_eq_getElem_cons hlt⟩
section
variable {Z : Wd} {x : Fx} {v : Vr} {place : Int}
theorem Inv.clip_pos {q : Mark} (I : Inv x v) (h : q ∈ v.ms) : clip q.pos v.N v.ge v.gs = q.pos := by
  have := I.pos q h
  unfold clip
  simp only [Vr.sz] at this
  omega
theorem Inv.set (I : Inv x v) {q : Mark} (h0 : q.num = 0) (hp : q.pos = clip place v.N v.ge v.gs) : Inv x { v with k0 := some q } := by
  have hg := I.g
  refine ⟨I.g, I.b, I.m, I.len, fun q' hq => ?_, I.nums, I.last, I.nd, fun q' hq => ?_⟩
  · cases hq; exact h0
  · rcases List.mem_cons.mp hq with rfl | hq
    · rw [hp]
      unfold clip
      simp only [Vr.sz]
      omega
    · exact I.pos q' (List.mem_append_right _ hq)
theorem Inv.rl (I : Inv x v) (RL : Addr) : Inv x { v with RL := RL } := ⟨I.g, I.b, I.m, I.len, I.num0, I.nums, I.last, I.nd, I.pos⟩
/-- the ring with a new marker ahead, cut -/
theorem Inv.ring (I : Inv x v) {j : Mark} {RL : Addr} (h : j.num = v.last - 1) (hp : 1 ≤ j.pos ∧ j.pos ≤ v.sz + 1) : Inv x { v with RL := RL, last := v.last - 1, rs := (j :: v.rs).take x.most.toNat } := by
  have hm := I.m
  have hl := I.last
  have sub : ∀ q ∈ (j :: v.rs).take x.most.toNat, q ∈ j :: v.rs := fun q hq => List.mem_of_mem_take hq
  refine ⟨I.g, I.b, I.m, ?_, I.num0, fun q hq => ?_, ?_, ?_, fun q hq => ?_⟩
  · show ((((j :: v.rs).take x.most.toNat).length : Nat) : Int) ≤ x.most
    rw [List.length_take]; omega
  · rcases List.mem_cons.mp (sub q hq) with rfl | hq
    · dsimp only; omega
    · have := I.nums q hq; dsimp only; omega
  · show v.last - 1 ≤ 0; omega
  · show (((j :: v.rs).take x.most.toNat).map (·.num)).Nodup
    refine List.Sublist.nodup ((List.take_sublist _ _).map _) (List.nodup_cons.mpr ⟨fun hm => ?_, I.nd⟩)
    obtain ⟨q, hq, e⟩ := List.mem_map.mp hm
    have := (I.nums q hq).1
    dsimp only at e
    omega
  · rcases List.mem_append.mp hq with hq | hq
    · exact I.pos q (List.mem_append_left _ hq)
    · rcases List.mem_cons.mp (sub q hq) with rfl | hq
      · exact hp
      · exact I.pos q (List.mem_append_right _ hq)
theorem push_spec (I : Inv x v) : SpecC Z 5 249 [.ref x.RG, .ref x.B, .int place] (sysL x v) (fun r ex' => ∃ (RL : Addr) (last : Int) (k' : Mark) (rs : List Mark), r = .none ∧ ex' = sysL x { v with RL := RL, last := last, k0 := some k', rs := rs } ∧
    Inv x { v with RL := RL, last := last, k0 := some k', rs := rs } ∧ k'.pos = clip place v.N v.ge v.gs ∧ rs.map (·.pos) = match v.k0 with | none => v.rs.map (·.pos) | some q => (q.pos :: v.rs.map (·.pos)).take x.most.toNat) := by
  have hN : v.N ≤ 100000 := by have := I.g; omega
  have hz := Nat.le_trans I.ms_len (show 4 ≤ 1000 by decide)
  have h0 : ∀ q ∈ v.rs, q.num ≠ 0 := fun q hq => by have := (I.nums q hq).2; omega
  have hm := I.m
  have hl := I.last
  obtain ⟨RL, pt, bv, zv, gs, ge, N, last, k0, rs⟩ := v
  refine SpecC.body rfl rfl rfl rfl (by decide) (fun _ _ _ => rfl) ?_
  intro f K O hK
  cases k0 with
  | none =>
    refine ex_ifG (tst_call (ev_call O rfl rfl rfl rfl (args_pe O (by repeat' (first | constructor | omega)) (SpecC.call hasN_spec O (by decide) (by repeat' constructor) ?_))))
    rintro _ _ ⟨rfl, rfl⟩
    refine ⟨false, rfl, fun h => (nomatch h), fun _ => ex_nilS ?_⟩
    refine ex_expr (ev_call O rfl rfl rfl rfl (args_pe O (by repeat' (first | constructor | omega)) (SpecC.call (set_spec (k0 := none) (ot := rs) hz hN h0 I.num0) O (by decide) (by repeat' constructor) ?_)))
    rintro _ _ ⟨q, rfl, rfl, hq1, hq2⟩
    exact ex_nil (hK (by repeat' constructor) ⟨RL, last, q, rs, rfl, rfl, I.set hq1 hq2, hq2, rfl⟩)
  | some k =>
    have hkp := I.clip_pos (q := k) (.head _)
    dsimp only at hkp hN hl
    refine ex_weak (Weak.out (x := []) (y := rs) (by repeat' constructor)) ?_
    refine ex_ifG (tst_call (ev_call O rfl rfl rfl rfl (args_pe O (by repeat' (first | constructor | omega)) (SpecC.call hasS_spec O (by decide) (by repeat' constructor) ?_))))
    rintro _ _ ⟨rfl, rfl⟩
    refine ⟨true, rfl, fun _ => ?_, fun h => (nomatch h)⟩
    have hnew : last - 1 ∉ (((some k).toList ++ rs).map Mark.key).map (·.1) := by
      rw [key_fst]
      intro h
      obtain ⟨q, hq, e⟩ := List.mem_map.mp h
      rcases List.mem_cons.mp hq with rfl | hq
      · have h1 : q.num = 0 := I.num0 q rfl
        have e : q.num = last - 1 := e
        omega
      · have h1 : last ≤ q.num := (I.nums q hq).1
        have e : q.num = last - 1 := e
        omega
    refine ex_expr (meth_list O PySem.F.slot_list_insert PySem.F.type_list_insert (by repeat' (first | constructor | omega)) (by repeat' constructor) rfl (args_ev (ev_pe O (by repeat' (first | constructor | omega)) (args_ev (ev_call O rfl rfl rfl rfl (args_pe O (by repeat' (first | constructor | omega)) (SpecC.call (ringm_spec hnew (by rw [List.length_map]; exact hz) hN) O (by decide) (by repeat' constructor) ?_)))))))
    rintro _ _ ⟨a, rfl, rfl⟩
    rw [hkp]
    have hlen : ((refs rs).length : Int) ≤ 3 := by have := I.len; dsimp only at this; rw [List.length_map]; omega
    refine args_nilE (call_insert0 (by repeat' constructor) (show (refs rs).length ≤ 1000 by omega) ?_)
    refine ex_weak (Weak.trans (Weak.inn (q := k) (x := []) (y := rs) (by repeat' constructor) (by repeat' constructor)) (Weak.inn (q := ⟨a, last - 1, k.pos⟩) (x := [k]) (y := rs) (by repeat' constructor) (by repeat' constructor))) ?_
    refine ex_weak (Weak.rows (l' := (k :: ⟨a, last - 1, k.pos⟩ :: rs).map Mark.key) (.swap _ _ _) (by repeat' constructor)) ?_
    have hI1 := I.ring (j := ⟨a, last - 1, k.pos⟩) (RL := RL) rfl (I.pos k (.head _))
    dsimp only at hI1
    generalize hal : (⟨a, last - 1, k.pos⟩ :: rs : List Mark) = al at hI1
    have hal2 : SV.ref a :: rs.map (fun q => SV.ref q.a) = refs al := by rw [← hal]; rfl
    have hall : al.length ≤ 4 := by rw [← hal]; simp at hlen ⊢; omega
    have hap : al.map (·.pos) = k.pos :: rs.map (·.pos) := by rw [← hal]; rfl
    have hsp : al.take x.most.toNat ++ al.drop x.most.toNat = al := List.take_append_drop _ _
    rw [hal2]
    refine ex_forL O rfl (ev_slice O (by repeat' (first | constructor | omega)) (by repeat' constructor) (.some (by repeat' (first | constructor | omega))) .none (by rw [← hal2]; simp at hlen ⊢; omega) fun D => ?_)
    rw [pick_from hm.1]
    have hdr : (refs al).drop x.most.toNat = refs (al.drop x.most.toNat) := (List.map_drop ..).symm
    rw [hdr]
    generalize hkeep : al.take x.most.toNat = keep at hI1 hsp
    generalize hdrop : al.drop x.most.toNat = dr at hsp
    refine ⟨D, refs dr, ⟨_, [bufE x.B x.G x.M x.LI pt bv zv (.ref k.a), mksE x.M x.R, .rows x.R ((k :: (keep ++ dr)).map Mark.key), .marks x.B (k :: (keep ++ dr)), ringE x.RG RL x.most (last - 1), .list RL (refs al), gapE x.G x.c gs ge, .anyL x.c N, .list x.LI []]⟩,
      fun i τ => τ = ⟨[Str.ofString "ring", Str.ofString "buffer", Str.ofString "place"].zip [.ref x.RG, .ref x.B, .int place], [bufE x.B x.G x.M x.LI pt bv zv (.ref k.a), mksE x.M x.R, .rows x.R ((k :: (keep ++ dr.drop i)).map Mark.key), .marks x.B (k :: (keep ++ dr.drop i)), ringE x.RG RL x.most (last - 1), .list RL (refs al), gapE x.G x.c gs ge, .anyL x.c N, .list x.LI []]⟩, rfl, ?_, rfl, ?_, ?_⟩
    · rw [hsp]
      exact Weak.split (by repeat' constructor)
    · rintro i w τ g hi O' rfl
      obtain ⟨q, rfl, hq⟩ := drop_step hi
      rw [hq]
      refine ex_weak (Weak.out (q := q) (x := k :: keep) (y := dr.drop (i + 1)) (by repeat' constructor)) ?_
      have hpm : ((k :: (keep ++ q :: dr.drop (i + 1))).map Mark.key).Perm (q.key :: (k :: (keep ++ dr.drop (i + 1))).map Mark.key) := by
        have := (List.perm_middle (a := q) (l₁ := k :: keep) (l₂ := dr.drop (i + 1))).map Mark.key
        simpa using this
      refine ex_expr (ev_call O' rfl rfl rfl rfl (args_pe O' (by repeat' (first | constructor | omega)) (SpecC.call (detach_spec hpm ?_) O' (by decide) (by repeat' constructor) ?_)))
      · have h1 := congrArg List.length hq
        have h2 := congrArg List.length hsp
        simp only [List.length_drop, List.length_cons, List.length_append, List.length_map] at h1 h2 ⊢
        omega
      rintro _ _ ⟨rfl, rfl⟩
      exact ex_weak (Weak.trans (Weak.split (ex := [bufE x.B x.G x.M x.LI pt bv zv (.ref k.a), mksE x.M x.R, .rows x.R ((k :: (keep ++ dr.drop (i + 1))).map Mark.key), .marks x.B (k :: (keep ++ dr.drop (i + 1))), ringE x.RG RL x.most (last - 1), .list RL (refs al), gapE x.G x.c gs ge, .anyL x.c N, .list x.LI []]) (by repeat' constructor)) (Weak.loc rfl)) (ex_nil ⟨.inl rfl, rfl⟩)
    · rintro τ rfl
      rw [List.length_map, List.drop_length, List.append_nil]
      refine ex_assign (ev_slice O (by repeat' (first | constructor | omega)) (by repeat' constructor) .none (.some (by repeat' (first | constructor | omega))) (by rw [← hal2]; simp at hlen ⊢; omega) fun D2 => ?_)
      rw [pick_to hm.1, show (refs al).take x.most.toNat = refs keep by rw [← hkeep]; exact (List.map_take ..).symm]
      refine as_attr O (by repeat' (first | constructor | omega)) (by repeat' constructor) rfl (ex_nilS ?_)
      refine ex_expr (ev_call O rfl rfl rfl rfl (args_pe O (by repeat' (first | constructor | omega)) (SpecC.call (set_spec (k0 := some k) (ot := keep) ?_ hN ?_ I.num0) O (by decide) (by repeat' constructor) ?_)))
      · have h2 := congrArg List.length hsp
        simp only [List.length_append, Option.toList_some, List.length_cons, List.length_nil] at h2 ⊢
        omega
      · intro q hq
        have : q.num < 0 := (hI1.nums q hq).2
        omega
      rintro _ _ ⟨q, rfl, rfl, hq1, hq2⟩
      refine ex_nil (hK (by repeat' constructor) ⟨D2, last - 1, q, keep, rfl, rfl, (hI1.rl D2).set hq1 hq2, hq2, ?_⟩)
      rw [← hkeep, List.map_take, hap]
end
section
variable {Z : Wd} {x : Fx} {v : Vr}
theorem Inv.popd (I : Inv x v) {k z j : Mark} {r : List Mark} {RL : Addr} (hk : v.k0 = some k) (hr : v.rs = z :: r) (hj : j.num = v.last - 1) (hp : j.pos = k.pos) : Inv x { v with RL := RL, last := v.last - 1, rs := r ++ [j] } := by
  have hl := I.last
  have hlen := I.len
  have hnum := I.nums
  have hnd := I.nd
  rw [hr] at hlen hnum hnd
  rw [List.map_cons] at hnd
  have hnd := (List.nodup_cons.mp hnd).2
  refine ⟨I.g, I.b, I.m, ?_, I.num0, fun q hq => ?_, ?_, ?_, fun q hq => ?_⟩
  · show (((r ++ [j]).length : Nat) : Int) ≤ x.most
    rw [List.length_append]; simp only [List.length_cons, List.length_nil] at hlen ⊢; omega
  · rcases List.mem_append.mp hq with hq | hq
    · have := hnum q (.tail _ hq); dsimp only; omega
    · rw [List.mem_singleton.mp hq]; dsimp only; omega
  · show v.last - 1 ≤ 0; omega
  · show ((r ++ [j]).map (·.num)).Nodup
    rw [List.map_append]
    refine List.nodup_append.mpr ⟨hnd, by simp, fun a ha b hb e => ?_⟩
    obtain ⟨q, hq, rfl⟩ := List.mem_map.mp ha
    have hb' : b = j.num := List.mem_singleton.mp hb
    have := (hnum q (.tail _ hq)).1
    have e : q.num = b := e
    omega
  · rcases List.mem_append.mp hq with hq | hq
    · exact I.pos q (List.mem_append_left _ hq)
    · rcases List.mem_append.mp hq with hq | hq
      · exact I.pos q (List.mem_append_right _ (by rw [hr]; exact .tail _ hq))
      · rw [List.mem_singleton.mp hq, hp]
        exact I.pos k (List.mem_append_left _ (by rw [hk]; exact .head _))
theorem pop_spec (I : Inv x v) {k : Mark} (hk : v.k0 = some k) : SpecC Z 5 256 [.ref x.RG, .ref x.B] (sysL x v) (fun r ex' => r = .int k.pos ∧ ∃ (RL : Addr) (last : Int) (k' : Mark) (rs : List Mark), ex' = sysL x { v with RL := RL, last := last, k0 := some k', rs := rs } ∧
    Inv x { v with RL := RL, last := last, k0 := some k', rs := rs } ∧ k'.pos = (match v.rs with | [] => k.pos | z :: _ => z.pos) ∧ rs.map (·.pos) = match v.rs with | [] => [] | _ :: r => r.map (·.pos) ++ [k.pos]) := by
  have hN : v.N ≤ 100000 := by have := I.g; omega
  have hz := I.ms_len
  have hm := I.m
  have hl := I.last
  obtain ⟨RL, pt, bv, zv, gs, ge, N, last, k0, rs⟩ := v
  have hk : k0 = some k := hk
  have hN : N ≤ 100000 := hN
  have hl : last ≤ 0 := hl
  subst hk
  have hkp := I.clip_pos (q := k) (.head _)
  dsimp only at hkp
  refine SpecC.body rfl rfl rfl rfl (by decide) (fun _ _ => rfl) ?_
  intro f K O hK
  refine ex_weak (Weak.out (x := []) (y := rs) (by repeat' constructor)) ?_
  refine ex_assign (ev_call O rfl rfl rfl rfl (args_pe O (by repeat' (first | constructor | omega)) (SpecC.call place_spec O (by decide) (by repeat' constructor) ?_)))
  rintro _ _ ⟨rfl, rfl⟩
  refine as_loc O rfl ?_
  cases rs with
  | nil =>
    refine ex_ifd O (.gt (by repeat' (first | constructor | omega)) (by repeat' (first | constructor | omega))) (fun h => absurd h (by simp)) (fun h => ex_nilS ?_)
    exact ex_weak (Weak.inn (q := k) (x := []) (y := []) (by repeat' constructor) (by repeat' constructor)) (ex_ret (ev_pe O (by repeat' (first | constructor | omega)) (hK (by repeat' constructor) ⟨rfl, RL, last, k, [], rfl, I, rfl, rfl⟩)))
  | cons z r =>
    have hzp := I.clip_pos (q := z) (.tail _ (.head _))
    dsimp only at hzp
    have hlr : r.length ≤ 2 := by have := hz; simp at this; omega
    refine ex_ifd O (.gt (.len rfl (by repeat' (first | constructor | omega)) (by repeat' constructor) (by rw [List.length_map, List.length_cons]; omega)) (by repeat' (first | constructor | omega))) (fun h => ?_) (fun h => absurd h (by simp <;> omega))
    have hnew : last - 1 ∉ ((k :: z :: r).map Mark.key).map (·.1) := by
      rw [key_fst]
      intro h
      obtain ⟨q, hq, e⟩ := List.mem_map.mp h
      rcases List.mem_cons.mp hq with rfl | hq
      · have h1 : q.num = 0 := I.num0 q rfl
        have e : q.num = last - 1 := e
        omega
      · have h1 : last ≤ q.num := (I.nums q hq).1
        have e : q.num = last - 1 := e
        omega
    refine ex_expr (meth_list O PySem.F.slot_list_append PySem.F.type_list_append (by repeat' (first | constructor | omega)) (by repeat' constructor) rfl (args_ev (ev_call O rfl rfl rfl rfl (args_pe O (by repeat' (first | constructor | omega)) (SpecC.call (ringm_spec (l := (k :: z :: r).map Mark.key) hnew (by simp; omega) hN) O (by decide) (by repeat' constructor) ?_)))))
    rintro _ _ ⟨a, rfl, rfl⟩
    rw [hkp]
    refine args_nilE (call_append (by repeat' constructor) (show (refs (z :: r)).length ≤ 1000 by simp; omega) ?_)
    have hp : (⟨a, last - 1, k.pos⟩ :: k :: z :: r : List Mark).Perm (k :: z :: (r ++ [⟨a, last - 1, k.pos⟩])) := (List.perm_append_singleton (⟨a, last - 1, k.pos⟩ : Mark) (k :: z :: r)).symm
    refine ex_weak (Weak.trans (Weak.inn (q := k) (x := []) (y := z :: r) (by repeat' constructor) (by repeat' constructor)) (Weak.inn (q := ⟨a, last - 1, k.pos⟩) (x := []) (y := k :: z :: r) (by repeat' constructor) (by repeat' constructor))) ?_
    refine ex_weak (Weak.trans (Weak.rows (l' := (k :: z :: (r ++ [⟨a, last - 1, k.pos⟩])).map Mark.key) (hp.map Mark.key) (by repeat' constructor)) (Weak.marks hp (by repeat' constructor))) ?_
    have hI1 := I.popd (j := ⟨a, last - 1, k.pos⟩) (RL := RL) rfl rfl rfl rfl
    have hrf : refs (z :: r) ++ [SV.ref a] = .ref z.a :: refs (r ++ [⟨a, last - 1, k.pos⟩]) := by simp
    rw [hrf]
    dsimp only at hI1
    have hap : (r ++ [⟨a, last - 1, k.pos⟩] : List Mark).map (·.pos) = r.map (·.pos) ++ [k.pos] := by simp
    have hlr2 : (r ++ [⟨a, last - 1, k.pos⟩] : List Mark).length ≤ 3 := by simp; omega
    generalize (r ++ [⟨a, last - 1, k.pos⟩] : List Mark) = r' at hI1 hap hlr2
    refine ex_assign (ev_pe O (.idx (by repeat' (first | constructor | omega)) (by repeat' constructor) (by repeat' (first | constructor | omega)) (by decide) (by decide) rfl) (as_loc O rfl ?_))
    refine ex_assign (ev_slice O (by repeat' (first | constructor | omega)) (by repeat' constructor) (.some (by repeat' (first | constructor | omega))) .none (by simp; omega) fun D2 => ?_)
    rw [show pick (SV.ref z.a :: refs r') (some 1) none = refs r' from pick_from (by decide)]
    refine as_attr O (by repeat' (first | constructor | omega)) (by repeat' constructor) rfl (ex_weak (Weak.out (q := z) (x := [k]) (y := r') (by repeat' constructor)) ?_)
    refine ex_expr (ev_call O rfl rfl rfl rfl (args_pe O (by repeat' (first | constructor | omega)) (call_weak (Weak.inn (q := z) (x := [k]) (y := r') (by repeat' constructor) (by repeat' constructor)) (SpecC.call (set_spec (k0 := some k) (ot := z :: r') ?_ hN ?_ I.num0) O (by decide) (by repeat' constructor) ?_))))
    · simp only [Option.toList_some, List.length_append, List.length_cons, List.length_nil]; omega
    · intro q hq
      have : q.num < 0 := by
        rcases List.mem_cons.mp hq with rfl | hq
        · exact (I.nums _ (.head _)).2
        · exact (hI1.nums q hq).2
      omega
    rintro _ _ ⟨q, rfl, rfl, hq1, hq2⟩
    refine ex_weak (Weak.out (q := z) (x := [q]) (y := r') (by repeat' constructor)) ?_
    refine ex_expr (ev_call O rfl rfl rfl rfl (args_pe O (by repeat' (first | constructor | omega)) (SpecC.call (detach_spec (l := (q :: r').map Mark.key) (.swap _ _ _) (by simp only [List.length_map, List.length_cons]; omega)) O (by decide) (by repeat' constructor) ?_)))
    rintro _ _ ⟨rfl, rfl⟩
    refine ex_nilS (ex_ret (ev_pe O (by repeat' (first | constructor | omega)) (hK (by repeat' constructor) ⟨rfl, D2, last - 1, q, r', rfl, (hI1.rl D2).set hq1 hq2, hq2.trans hzp, hap⟩)))
theorem popto_spec (I : Inv x v) {k : Mark} (hk : v.k0 = some k) : SpecC Z 6 263 [.ref x.RG, .ref x.B] (sysL x v) (fun r ex' => r = .none ∧ ∃ (RL : Addr) (last : Int) (k' : Mark) (rs : List Mark), ex' = sysL x { v with RL := RL, last := last, k0 := some k', rs := rs, pt := min (max k.pos v.bv) v.zv } ∧
    Inv x { v with RL := RL, last := last, k0 := some k', rs := rs } ∧ k'.pos = (match v.rs with | [] => k.pos | z :: _ => z.pos) ∧ rs.map (·.pos) = match v.rs with | [] => [] | _ :: r => r.map (·.pos) ++ [k.pos]) := by
  refine SpecC.body rfl rfl rfl rfl (by decide) (fun _ _ => rfl) ?_
  intro f K O hK
  refine ex_expr (ev_meth O (by repeat' (first | constructor | omega)) (by repeat' constructor) rfl rfl rfl (args_ev (ev_call O rfl rfl rfl rfl (args_pe O (by repeat' (first | constructor | omega)) (SpecC.call (pop_spec I hk) O (by decide) (by repeat' constructor) ?_)))))
  rintro _ _ ⟨rfl, RL, last, k', rs, rfl, hI, h1, h2⟩
  refine args_nilE (SpecC.call goto_spec O (by decide) (by repeat' constructor) ?_)
  rintro _ _ ⟨rfl, rfl⟩
  exact ex_nil (hK (by repeat' constructor) ⟨rfl, RL, last, k', rs, rfl, hI, h1, h2⟩)
end
section
variable {Z : Wd} {B G M LI R c : Addr} {pt bv zv gs ge N st en place W : Int} {mk : SV} {ms : List Mark}
theorem needw_spec : SpecC Z 1 465 [.ref B] [bufE B G M LI pt bv zv mk] (fun r ex' => r = .none ∧ ex' = [bufE B G M LI pt bv zv mk]) := by
  refine SpecC.body rfl rfl rfl rfl (by decide) (fun _ => rfl) ?_
  intro f K O hK
  exact ex_ifF O (.attr (by repeat' (first | constructor | omega))) (ex_nilS (ex_nil (hK (by repeat' constructor) ⟨rfl, rfl⟩)))
theorem reached_spec (h1 : bv ≤ min st en) (h2 : max st en ≤ zv) : SpecC Z 1 472 [.ref B, .int st, .int en] [bufE B G M LI pt bv zv mk] (fun r ex' => ∃ T, r = .ref T ∧ ex' = [bufE B G M LI pt bv zv mk, .tup T [.int (min st en), .int (max st en)]]) := by
  refine SpecC.body rfl rfl rfl rfl (by decide) (fun _ _ _ => rfl) ?_
  intro f K O hK
  refine ex_swap O rfl rfl (ev_tuple (args_pe O (by repeat' (first | constructor | omega)) ⟨(Nat.le_of_ble_eq_true rfl), fun T => ⟨T, _, _, rfl, (by repeat' constructor), ?_⟩⟩))
  refine ex_if O (.or (.lt (by repeat' (first | constructor | omega)) (by repeat' (first | constructor | omega))) (.gt (by repeat' (first | constructor | omega)) (by repeat' (first | constructor | omega)))) (fun h => absurd h ?_) (fun _ => ex_nilS (ex_ret (ev_tuple (args_pe O (by repeat' (first | constructor | omega)) ⟨(Nat.le_of_ble_eq_true rfl), fun T => hK (by repeat' constructor) ⟨T, rfl, rfl⟩⟩))))
  simp only [Bool.or_eq_true, decide_eq_true_eq, not_or]
  omega
theorem ahead_spec : SpecC Z 1 479 [.ref B, .int st, .int en] [bufE B G M LI pt bv zv mk, .list LI []] (fun r ex' => r = .none ∧ ex' = [bufE B G M LI pt bv zv mk, .list LI []]) := by
  refine SpecC.body rfl rfl rfl rfl (by decide) (fun _ _ _ => rfl) ?_
  intro f K O hK
  refine ex_forL O rfl (ev_listcopy O rfl (by repeat' (first | constructor | omega)) (by repeat' constructor) (by decide) fun D => ⟨D, [], ⟨_, [bufE B G M LI pt bv zv mk, .list LI []]⟩, fun _ τ => τ.led = [bufE B G M LI pt bv zv mk, .list LI []], rfl, fun _ _ h => h, rfl, fun i u τ g hi => (nomatch hi), fun τ h => ?_⟩)
  exact ex_nil (hK (by rw [h]; repeat' constructor) ⟨rfl, rfl⟩)
theorem behind_spec {old : Int} : SpecC Z 2 486 [.ref B, .int st, .int en, .int old] [bufE B G M LI pt bv zv mk, .list LI []] (fun r ex' => r = .none ∧ ex' = [bufE B G M LI pt bv zv mk, .list LI []]) := by
  refine SpecC.body rfl rfl rfl rfl (by decide) (fun _ _ _ _ => rfl) ?_
  intro f K O hK
  refine ex_expr (ev_meth O (by repeat' (first | constructor | omega)) (by repeat' constructor) rfl rfl rfl (args_pe O (by repeat' (first | constructor | omega)) (SpecC.call touch_spec O (by decide) (by repeat' constructor) ?_)))
  rintro _ _ ⟨rfl, rfl⟩
  refine ex_forL O rfl (ev_listcopy O rfl (by repeat' (first | constructor | omega)) (by repeat' constructor) (by decide) fun D => ⟨D, [], ⟨_, [bufE B G M LI pt bv zv mk, .list LI []]⟩, fun _ τ => τ.led = [bufE B G M LI pt bv zv mk, .list LI []], rfl, fun _ _ h => h, rfl, fun i u τ g hi => (nomatch hi), fun τ h => ?_⟩)
  exact ex_nil (hK (by rw [h]; repeat' constructor) ⟨rfl, rfl⟩)
theorem hout_spec : SpecC Z 1 507 [.ref B, .int st, .int en] [bufE B G M LI pt bv zv mk] (fun r ex' => r = .none ∧ ex' = [bufE B G M LI pt bv zv mk]) := by
  refine SpecC.body rfl rfl rfl rfl (by decide) (fun _ _ _ => rfl) ?_
  intro f K O hK
  exact ex_ifF O (.notN (by repeat' (first | constructor | omega)) (by repeat' constructor)) (ex_nilS (ex_ifF O (.notN (by repeat' (first | constructor | omega)) (by repeat' constructor)) (ex_nilS (ex_nil (hK (by repeat' constructor) ⟨rfl, rfl⟩)))))
theorem hin_spec {bb : Bool} : SpecC Z 1 514 [.ref B, .int st, .int en, .bool bb] [bufE B G M LI pt bv zv mk] (fun r ex' => r = .none ∧ ex' = [bufE B G M LI pt bv zv mk]) := by
  refine SpecC.body rfl rfl rfl rfl (by decide) (fun _ _ _ _ => rfl) ?_
  intro f K O hK
  exact ex_ifF O (.notN (by repeat' (first | constructor | omega)) (by repeat' constructor)) (ex_nilS (ex_ifF O (.notN (by repeat' (first | constructor | omega)) (by repeat' constructor)) (ex_nilS (ex_nil (hK (by repeat' constructor) ⟨rfl, rfl⟩)))))
theorem tout_spec (g : 0 ≤ gs ∧ gs ≤ ge ∧ ge ≤ N ∧ N ≤ 10000 ∧ 1 ≤ st ∧ st ≤ en ∧ en ≤ N - (ge - gs) + 1) : SpecC Z 3 493 [.ref B, .int st, .int en] (bufE B G M LI pt bv zv mk :: gapL G c gs ge N)
    (fun r ex' => ∃ D pt' gs' ge' N', r = .ref D ∧ ex' = bufE B G M LI pt' bv (zv - (en - st)) mk :: gapL G c gs' ge' N' ∧ 0 ≤ gs' ∧ gs' ≤ ge' ∧ ge' ≤ N' ∧ N' = N ∧ ge' - gs' = ge - gs + (en - st)) := by
  refine SpecC.body rfl rfl rfl rfl (by decide) (fun _ _ _ => rfl) ?_
  intro f K O hK
  refine ex_ifF O (.notN (by repeat' (first | constructor | omega)) (by repeat' constructor)) (ex_nilS (ex_assign (ev_meth O (by repeat' (first | constructor | omega)) (by repeat' constructor) rfl rfl rfl (args_pe O (by repeat' (first | constructor | omega)) (SpecC.call (gdel_spec (G := G) (c := c) (gs := gs) (ge := ge) (N := N) (st := st - 1) (en := en - 1) (by omega)) O (by decide) (by repeat' constructor) ?_)))))
  rintro _ _ ⟨D, gs', ge', N', rfl, rfl, h1, h2, h3, h4, h5⟩
  refine as_loc O rfl (ex_assign (ev_pe O (by repeat' (first | constructor | omega)) (as_attr O (by repeat' (first | constructor | omega)) (by repeat' constructor) rfl ?_)))
  refine ex_ifd O (.gt (by repeat' (first | constructor | omega)) (by repeat' (first | constructor | omega))) (fun h => ?_) (fun h => ex_nilS ?_)
  · exact ex_assign (ev_pe O (by repeat' (first | constructor | omega)) (as_attr O (by repeat' (first | constructor | omega)) (by repeat' constructor) rfl (ex_nilS (ex_ret (ev_pe O (by repeat' (first | constructor | omega)) (hK (by repeat' constructor) ⟨D, _, gs', ge', N', rfl, rfl, h1, h2, h3, h4, by omega⟩))))))
  · exact ex_ret (ev_pe O (by repeat' (first | constructor | omega)) (hK (by repeat' constructor) ⟨D, _, gs', ge', N', rfl, rfl, h1, h2, h3, h4, by omega⟩))
theorem tin_spec {D : Addr} (g : 0 ≤ gs ∧ gs ≤ ge ∧ ge ≤ N ∧ N ≤ 5000 ∧ 1 ≤ place ∧ place ≤ N - (ge - gs) + 1 ∧ 0 ≤ W ∧ W ≤ 1000) : SpecC Z 3 500 [.ref B, .int place, .ref D] (bufE B G M LI pt bv zv mk :: .anyL D W :: gapL G c gs ge N)
    (fun r ex' => ∃ pt' gs' ge' N', r = .none ∧ ex' = bufE B G M LI pt' bv (zv + W) mk :: .anyL D W :: gapL G c gs' ge' N' ∧ 0 ≤ gs' ∧ gs' ≤ ge' ∧ ge' ≤ N' ∧ N' - (ge' - gs') = N - (ge - gs) + W ∧ N' ≤ N + W + 2) := by
  refine SpecC.body rfl rfl rfl rfl (by decide) (fun _ _ _ => rfl) ?_
  intro f K O hK
  refine ex_ifF O (.notN (by repeat' (first | constructor | omega)) (by repeat' constructor)) (ex_nilS (ex_expr (ev_meth O (by repeat' (first | constructor | omega)) (by repeat' constructor) rfl rfl rfl (args_pe O (by repeat' (first | constructor | omega)) (SpecC.call (gins_spec (G := G) (c := c) (gs := gs) (ge := ge) (N := N) (at_ := place - 1) (W := W) (by omega)) O (by decide) (by repeat' constructor) ?_)))))
  rintro _ _ ⟨gs', ge', N', rfl, rfl, h1, h2, h3, h4, h5⟩
  refine ex_assign (ev_pe O (by repeat' (first | constructor | omega)) (as_attr O (by repeat' (first | constructor | omega)) (by repeat' constructor) rfl ?_))
  refine ex_ifd O (.gt (by repeat' (first | constructor | omega)) (by repeat' (first | constructor | omega))) (fun h => ?_) (fun h => ex_nilS ?_)
  · exact ex_assign (ev_pe O (by repeat' (first | constructor | omega)) (as_attr O (by repeat' (first | constructor | omega)) (by repeat' constructor) rfl (ex_nilS (ex_nil (hK (by repeat' constructor) ⟨_, gs', ge', N', rfl, rfl, h1, h2, h3, h4, h5⟩)))))
  · exact ex_nil (hK (by repeat' constructor) ⟨_, gs', ge', N', rfl, rfl, h1, h2, h3, h4, h5⟩)
end
theorem key_mv {g : Int → Int} {ms : List Mark} : (ms.map (Mark.mv g)).map Mark.key = ms.map Mark.key := by rw [List.map_map]; rfl
section
variable {Z : Wd} {B G M LI R c D : Addr} {pt bv zv gs ge N st en place W : Int} {mk : SV} {ms : List Mark}
abbrev edL (B G M LI R c : Addr) (pt bv zv gs ge N : Int) (mk : SV) (ms : List Mark) (kl : List (Int × Addr)) : List SE := [bufE B G M LI pt bv zv mk, .list LI [], gapE G c gs ge, .anyL c N, .marks B ms, mksE M R, .rows R kl]
theorem putin_spec (hn : (ms.map (·.num)).Nodup) (hl : ms.length < 64) (g : 0 ≤ gs ∧ gs ≤ ge ∧ ge ≤ N ∧ N ≤ 5000 ∧ 1 ≤ place ∧ place ≤ N - (ge - gs) + 1 ∧ 1 ≤ W ∧ W ≤ 1000 ∧ bv ≤ place ∧ place ≤ zv) :
    SpecC Z 4 521 [.ref B, .int place, .ref D, .bool false, .bool false] (.anyL D W :: edL B G M LI R c pt bv zv gs ge N mk ms (ms.map Mark.key))
      (fun r ex' => ∃ pt' gs' ge' N', r = .none ∧ ex' = edL B G M LI R c pt' bv (zv + W) gs' ge' N' mk (ms.map (Mark.mv (fI place (place + W)))) (ms.map Mark.key) ∧ 0 ≤ gs' ∧ gs' ≤ ge' ∧ ge' ≤ N' ∧ N' - (ge' - gs') = N - (ge - gs) + W ∧ N' ≤ N + W + 2) := by
  refine SpecC.body rfl rfl rfl rfl (by decide) (fun _ _ _ _ _ => rfl) ?_
  intro f K O hK
  refine ex_expr (ev_call O rfl rfl rfl rfl (args_pe O (by repeat' (first | constructor | omega)) (SpecC.call needw_spec O (by decide) (by repeat' constructor) ?_)))
  rintro _ _ ⟨rfl, rfl⟩
  refine ex_expr (ev_call O rfl rfl rfl rfl (args_pe O (by repeat' (first | constructor | omega)) (SpecC.call (reached_spec (st := place) (en := place) (bv := bv) (zv := zv) (by omega) (by omega)) O (by decide) (by repeat' constructor) ?_)))
  rintro _ _ ⟨T, rfl, rfl⟩
  refine ex_if O (.eq (.len rfl (by repeat' (first | constructor | omega)) (by repeat' constructor) (by omega)) (by repeat' (first | constructor | omega))) (fun h => absurd h (by simp; omega)) (fun _ => ex_nilS ?_)
  refine ex_expr (ev_call O rfl rfl rfl rfl (args_pe O (by repeat' (first | constructor | omega)) (SpecC.call ahead_spec O (by decide) (by repeat' constructor) ?_)))
  rintro _ _ ⟨rfl, rfl⟩
  refine ex_expr (ev_call O rfl rfl rfl rfl (args_pe O (by repeat' (first | constructor | omega)) (SpecC.call (tin_spec (G := G) (c := c) (gs := gs) (ge := ge) (N := N) (place := place) (W := W) (by omega)) O (by decide) (by repeat' constructor) ?_)))
  rintro _ _ ⟨pt', gs', ge', N', rfl, rfl, h1, h2, h3, h4, h5⟩
  refine ex_ifF O (.name (by repeat' (first | constructor | omega))) (ex_nilS ?_)
  refine ex_expr (ev_meth O (by repeat' (first | constructor | omega)) (by repeat' constructor) rfl rfl rfl (args_pe O (.cons (by repeat' (first | constructor | omega)) (.cons (.add (by repeat' (first | constructor | omega)) (.len rfl (by repeat' (first | constructor | omega)) (by repeat' constructor) (by omega))) (by repeat' (first | constructor | omega)))) (SpecC.call (inserted_spec (ms := ms) hn hl) O (by decide) (by repeat' constructor) ?_)))
  rintro _ _ ⟨rfl, rfl⟩
  refine ex_expr (ev_call O rfl rfl rfl rfl (args_pe O (.cons (by repeat' (first | constructor | omega)) (.cons (by repeat' (first | constructor | omega)) (.cons (.len rfl (by repeat' (first | constructor | omega)) (by repeat' constructor) (by omega)) (by repeat' (first | constructor | omega))))) (SpecC.call hin_spec O (by decide) (by repeat' constructor) ?_)))
  rintro _ _ ⟨rfl, rfl⟩
  refine ex_expr (ev_call O rfl rfl rfl rfl (args_pe O (.cons (by repeat' (first | constructor | omega)) (.cons (by repeat' (first | constructor | omega)) (.cons (.add (by repeat' (first | constructor | omega)) (.len rfl (by repeat' (first | constructor | omega)) (by repeat' constructor) (by omega))) (by repeat' (first | constructor | omega))))) (SpecC.call behind_spec O (by decide) (by repeat' constructor) ?_)))
  rintro _ _ ⟨rfl, rfl⟩
  exact ex_nil (hK (by repeat' constructor) ⟨pt', gs', ge', N', rfl, rfl, h1, h2, h3, h4, h5⟩)
theorem insat_spec (hn : (ms.map (·.num)).Nodup) (hl : ms.length < 64) (g : 0 ≤ gs ∧ gs ≤ ge ∧ ge ≤ N ∧ N ≤ 5000 ∧ 1 ≤ place ∧ place ≤ N - (ge - gs) + 1 ∧ 1 ≤ W ∧ W ≤ 1000 ∧ bv ≤ place ∧ place ≤ zv) :
    SpecC Z 5 529 [.ref B, .int place, .ref D] (.anyL D W :: edL B G M LI R c pt bv zv gs ge N mk ms (ms.map Mark.key))
      (fun r ex' => ∃ pt' gs' ge' N', r = .none ∧ ex' = edL B G M LI R c pt' bv (zv + W) gs' ge' N' mk (ms.map (Mark.mv (fI place (place + W)))) (ms.map Mark.key) ∧ 0 ≤ gs' ∧ gs' ≤ ge' ∧ ge' ≤ N' ∧ N' - (ge' - gs') = N - (ge - gs) + W ∧ N' ≤ N + W + 2) := by
  refine SpecC.bodyG (m0 := [Str.ofString "buffer", Str.ofString "place", Str.ofString "codes", Str.ofString "before_markers"].zip [.ref B, .int place, .ref D, .bool false]) rfl rfl rfl (by decide) ?_ ?_
  · rintro _ ⟨v1, _, rfl, rfl, v2, _, rfl, ⟨t, rfl⟩, v3, _, rfl, rfl, rfl⟩ s X
    exact ⟨[Str.ofString "buffer", Str.ofString "place", Str.ofString "codes", Str.ofString "before_markers"].zip [.ref B, .int place t, .ref D, .bool false], binds_K X rfl rfl rfl rfl rfl, rfl, fun x v hx => zip_lookup (vs := [.ref B, .int place, .ref D, .bool false]) ⟨_, _, rfl, rfl, _, _, rfl, ⟨t, rfl⟩, _, _, rfl, rfl, _, _, rfl, rfl, rfl⟩ hx⟩
  intro f K O hK
  refine ex_expr (ev_call O rfl rfl rfl rfl (args_pe O (by repeat' (first | constructor | omega)) (SpecC.call (putin_spec (ms := ms) hn hl g) O (by decide) (by repeat' constructor) ?_)))
  rintro _ _ ⟨pt', gs', ge', N', rfl, rfl, h⟩
  exact ex_nil (hK (by repeat' constructor) ⟨pt', gs', ge', N', rfl, rfl, h⟩)
theorem delete_spec (hn : (ms.map (·.num)).Nodup) (hl : ms.length < 64) (g : 0 ≤ gs ∧ gs ≤ ge ∧ ge ≤ N ∧ N ≤ 5000 ∧ 1 ≤ st ∧ st ≤ en ∧ en ≤ N - (ge - gs) + 1 ∧ bv ≤ st ∧ en ≤ zv) :
    SpecC Z 4 536 [.ref B, .int st, .int en] (edL B G M LI R c pt bv zv gs ge N mk ms (ms.map Mark.key))
      (fun r ex' => ∃ D pt' zv' gs' ge' N' ms', r = .ref D ∧ ex' = edL B G M LI R c pt' bv zv' gs' ge' N' mk ms' (ms.map Mark.key) ∧ zv' = zv - (en - st) ∧ 0 ≤ gs' ∧ gs' ≤ ge' ∧ ge' ≤ N' ∧ N' = N ∧ ge' - gs' = ge - gs + (en - st) ∧ (st = en ∧ ms' = ms ∨ st < en ∧ ms' = ms.map (Mark.mv (fD st en)))) := by
  refine SpecC.body rfl rfl rfl rfl (by decide) (fun _ _ _ => rfl) ?_
  intro f K O hK
  refine ex_expr (ev_call O rfl rfl rfl rfl (args_pe O (by repeat' (first | constructor | omega)) (SpecC.call needw_spec O (by decide) (by repeat' constructor) ?_)))
  rintro _ _ ⟨rfl, rfl⟩
  refine ex_assign (ev_call O rfl rfl rfl rfl (args_pe O (by repeat' (first | constructor | omega)) (SpecC.call (reached_spec (st := st) (en := en) (bv := bv) (zv := zv) (by omega) (by omega)) O (by decide) (by repeat' constructor) ?_)))
  rintro _ _ ⟨T, rfl, rfl⟩
  rw [show min st en = st by omega, show max st en = en by omega]
  refine as_tup2 (by repeat' constructor) (as_loc O rfl (as_loc O rfl ?_))
  refine ex_if O (.eq (by repeat' (first | constructor | omega)) (by repeat' (first | constructor | omega))) (fun h => ?_) (fun h => ex_nilS ?_)
  · have e : st = en := by simpa using h
    exact ex_ret (ev_list (args_nilE ⟨(Nat.le_of_ble_eq_true rfl), fun D => hK (by repeat' constructor) ⟨D, pt, zv, gs, ge, N, ms, rfl, rfl, by omega, by omega, by omega, by omega, rfl, by omega, .inl ⟨e, rfl⟩⟩⟩))
  have e : st ≠ en := by simpa using h
  refine ex_expr (ev_call O rfl rfl rfl rfl (args_pe O (by repeat' (first | constructor | omega)) (SpecC.call ahead_spec O (by decide) (by repeat' constructor) ?_)))
  rintro _ _ ⟨rfl, rfl⟩
  refine ex_assign (ev_call O rfl rfl rfl rfl (args_pe O (by repeat' (first | constructor | omega)) (SpecC.call (tout_spec (G := G) (c := c) (gs := gs) (ge := ge) (N := N) (st := st) (en := en) (by omega)) O (by decide) (by repeat' constructor) ?_)))
  rintro _ _ ⟨D, pt', gs', ge', N', rfl, rfl, h1, h2, h3, h4, h5⟩
  refine as_loc O rfl ?_
  refine ex_expr (ev_meth O (by repeat' (first | constructor | omega)) (by repeat' constructor) rfl rfl rfl (args_pe O (by repeat' (first | constructor | omega)) (SpecC.call (deleted_spec (ms := ms) hn hl) O (by decide) (by repeat' constructor) ?_)))
  rintro _ _ ⟨rfl, rfl⟩
  refine ex_expr (ev_call O rfl rfl rfl rfl (args_pe O (by repeat' (first | constructor | omega)) (SpecC.call hout_spec O (by decide) (by repeat' constructor) ?_)))
  rintro _ _ ⟨rfl, rfl⟩
  refine ex_expr (ev_call O rfl rfl rfl rfl (args_pe O (by repeat' (first | constructor | omega)) (SpecC.call behind_spec O (by decide) (by repeat' constructor) ?_)))
  rintro _ _ ⟨rfl, rfl⟩
  exact ex_ret (ev_pe O (by repeat' (first | constructor | omega)) (hK (by repeat' constructor) ⟨D, pt', _, gs', ge', N', ms.map (Mark.mv (fD st en)), rfl, rfl, rfl, h1, h2, h3, h4, h5, .inr ⟨by omega, rfl⟩⟩))
end
section
variable {Z : Wd} {B G M LI c : Addr} {pt bv zv gs ge N a b : Int} {mk : SV}
theorem narrow_spec (hN : N ≤ 100000) (h1 : 1 ≤ min a b) (h2 : max a b ≤ N - ge + gs + 1) : SpecC Z 3 543 [.ref B, .int a, .int b] (bufE B G M LI pt bv zv mk :: gapL G c gs ge N)
    (fun r ex' => ∃ pt', r = .none ∧ ex' = bufE B G M LI pt' (min a b) (max a b) mk :: gapL G c gs ge N) := by
  refine SpecC.body rfl rfl rfl rfl (by decide) (fun _ _ _ => rfl) ?_
  intro f K O hK
  refine ex_swap O rfl rfl (ev_tuple (args_pe O (by repeat' (first | constructor | omega)) ⟨(Nat.le_of_ble_eq_true rfl), fun T => ⟨T, _, _, rfl, (by repeat' constructor), ?_⟩⟩))
  refine ex_ifG (tst_orF O ?_ (tst_gt O (by repeat' (first | constructor | omega)) (ev_add O (ev_meth O (by repeat' (first | constructor | omega)) (by repeat' constructor) rfl rfl rfl (args_nilE (SpecC.call (bsize_spec (G := G) (c := c) (gs := gs) (ge := ge) hN) O (by decide) (by repeat' constructor) ?_))))))
  · rw [← show decide (min a b < 1) = false from decide_eq_false (by omega)]
    exact .lt (by repeat' (first | constructor | omega)) (by repeat' (first | constructor | omega))
  rintro _ _ ⟨rfl, rfl⟩
  refine ⟨_, rfl, ev_pe O (by repeat' (first | constructor | omega)) ⟨_, rfl, _, rfl, fun h => ?_, fun _ => ex_nilS ?_⟩⟩
  · have := of_decide_eq_true h; omega
  refine ex_assign (ev_tuple (args_pe O (by repeat' (first | constructor | omega)) ⟨(Nat.le_of_ble_eq_true rfl), fun T => as_tup2 (by repeat' constructor) (as_attr O (by repeat' (first | constructor | omega)) (by repeat' constructor) rfl (as_attr O (by repeat' (first | constructor | omega)) (by repeat' constructor) rfl ?_))⟩))
  refine ex_expr (ev_meth O (by repeat' (first | constructor | omega)) (by repeat' constructor) rfl rfl rfl (args_pe O (by repeat' (first | constructor | omega)) (SpecC.call goto_spec O (by decide) (by repeat' constructor) ?_)))
  rintro _ _ ⟨rfl, rfl⟩
  exact ex_nil (hK (by repeat' constructor) ⟨_, rfl, rfl⟩)
theorem widen_spec' (hN : N ≤ 100000) : SpecC Z 3 550 [.ref B] (bufE B G M LI pt bv zv mk :: gapL G c gs ge N)
    (fun r ex' => r = .none ∧ ex' = bufE B G M LI pt 1 (N - ge + gs + 1) mk :: gapL G c gs ge N) := by
  refine SpecC.body rfl rfl rfl rfl (by decide) (fun _ => rfl) ?_
  intro f K O hK
  refine ex_assign (ev_tuple (args_ev (ev_pe O (by repeat' (first | constructor | omega)) (args_ev (ev_add O (ev_meth O (by repeat' (first | constructor | omega)) (by repeat' constructor) rfl rfl rfl (args_nilE (SpecC.call (bsize_spec (G := G) (c := c) (gs := gs) (ge := ge) hN) O (by decide) (by repeat' constructor) ?_))))))))
  rintro _ _ ⟨rfl, rfl⟩
  refine ⟨_, rfl, ev_pe O (by repeat' (first | constructor | omega)) ⟨_, rfl, args_nilE ⟨(Nat.le_of_ble_eq_true rfl), fun T => as_tup2 (by repeat' constructor) (as_attr O (by repeat' (first | constructor | omega)) (by repeat' constructor) rfl (as_attr O (by repeat' (first | constructor | omega)) (by repeat' constructor) rfl (ex_nil (hK (by repeat' constructor) ⟨rfl, rfl⟩))))⟩⟩⟩
end
abbrev deckL (D C : Addr) (ns : List Int) (k sd : Int) : List SE := [.list D [.ref C, .int k, .int sd], .list C (ns.map .int)]
section
variable {Z : Wd} {D C : Addr} {ns : List Int} {k sd many place size : Int}
theorem draw_spec (hk : 0 ≤ k ∧ k < 100000) (hl : ns.length ≤ 63) (hm : 0 < many) : SpecC Z 1 557 [.ref D, .int many] (deckL D C ns k sd) (fun r ex' => ∃ q sd' k', r = .int q ∧ 0 ≤ q ∧ q < many ∧ ex' = deckL D C ns k' sd' ∧ k' = k + 1) := by
  refine SpecC.body rfl rfl rfl rfl (by decide) (fun _ _ => rfl) ?_
  intro f K O hK
  refine ex_assign (ev_pe O (.idx (by repeat' (first | constructor | omega)) (by repeat' constructor) (by repeat' (first | constructor | omega)) (by decide) (by decide) rfl) (as_loc O rfl ?_))
  refine ex_assign (ev_pe O (by repeat' (first | constructor | omega)) (as_item O (by repeat' (first | constructor | omega)) (by repeat' (first | constructor | omega)) (by repeat' constructor) rfl (by decide) (by simp) (by decide) ?_))
  refine ex_assign (ev_int (ev_ifexpd O (.lt (by repeat' (first | constructor | omega)) (.len rfl (.idx (by repeat' (first | constructor | omega)) (by repeat' constructor) (by repeat' (first | constructor | omega)) (by decide) (by decide) rfl) (by repeat' constructor) (by rw [List.length_map]; omega))) (fun h => ?_) (fun h => ?_)) ?_)
  · rw [List.length_map] at h
    exact ev_pe O (.idx (.idx (by repeat' (first | constructor | omega)) (by repeat' constructor) (by repeat' (first | constructor | omega)) (by decide) (by decide) rfl) (by repeat' constructor) (by repeat' (first | constructor | omega)) hk.1 (by omega) (by rw [List.getElem?_map, List.getElem?_eq_getElem (by omega)]; rfl)) ⟨_, rfl, rfl⟩
  · exact ev_pe O (.fdiv (.idx (by repeat' (first | constructor | omega)) (by repeat' constructor) (by repeat' (first | constructor | omega)) (by decide) (by decide) rfl) (by repeat' (first | constructor | omega)) (by decide) (PyProof.noPylong_of_log2 (by decide))) ⟨_, rfl, rfl⟩
  intro cell
  refine as_loc O rfl ?_
  refine ex_assign (ev_pe O (.mod (.add (.add (.add (.mul (.idx (by repeat' (first | constructor | omega)) (by repeat' constructor) (by repeat' (first | constructor | omega)) (by decide) (by decide) rfl) (by repeat' (first | constructor | omega)) (.of_right (by decide))) (.mod (by repeat' (first | constructor | omega)) (by repeat' (first | constructor | omega)) (by decide))) (.mul (by repeat' (first | constructor | omega)) (by repeat' (first | constructor | omega)) (.of_left (by decide)))) (by repeat' (first | constructor | omega))) (by repeat' (first | constructor | omega)) (by decide)) (as_item O (by repeat' (first | constructor | omega)) (by repeat' (first | constructor | omega)) (by repeat' constructor) rfl (by decide) (by simp) (by decide) ?_))
  exact ex_ret (ev_pe O (.mod (by repeat' (first | constructor | omega)) (by repeat' (first | constructor | omega)) (by omega)) (hK (by repeat' constructor) ⟨_, _, _, rfl, Int.fmod_nonneg_of_pos _ hm, Int.fmod_lt_of_pos _ hm, rfl, rfl⟩))
theorem clipped_spec : SpecC Z 1 583 [.int place, .int size] [] (fun r ex' => r = .int (min (max place 1) (size + 1)) ∧ ex' = []) := by
  refine SpecC.body rfl rfl rfl rfl (by decide) (fun _ _ => rfl) ?_
  intro f K O hK
  exact ex_ret (ev_pe O (by repeat' (first | constructor | omega)) (hK (by repeat' constructor) ⟨rfl, rfl⟩))
theorem pick_spec {I : Addr} {vs : List SV} (hk : 0 ≤ k ∧ k < 100000) (hl : ns.length ≤ 63) (h0 : 0 < vs.length) (h1 : vs.length ≤ 100) : SpecC Z 2 564 [.ref D, .ref I] (.list I vs :: deckL D C ns k sd) (fun r ex' => ∃ sd' k', r ∈ vs ∧ ex' = deckL D C ns k' sd' ∧ k' = k + 1) := by
  refine SpecC.body rfl rfl rfl rfl (by decide) (fun _ _ => rfl) ?_
  intro f K O hK
  refine ex_ret (ev_item O (by repeat' (first | constructor | omega)) (ev_call O rfl rfl rfl rfl (args_pe O (.cons (by repeat' (first | constructor | omega)) (.cons (.len rfl (by repeat' (first | constructor | omega)) (by repeat' constructor) (by omega)) (by repeat' (first | constructor | omega)))) (SpecC.call (draw_spec (D := D) (C := C) (ns := ns) (k := k) (sd := sd) (many := (vs.length : Int)) hk hl (by omega)) O (by decide) (by repeat' constructor) ?_))))
  rintro _ _ ⟨q, sd', k', rfl, q0, q1, rfl, rfl⟩
  exact ⟨q, vs, _, rfl, (by repeat' constructor), q0, by omega, List.getElem?_eq_getElem (by omega), hK (by repeat' constructor) ⟨sd', _, List.getElem_mem _, rfl, rfl⟩⟩
theorem movedI_spec {q st en many : Int} (hse : st ≤ en) : SpecC Z 1 590 [.int q, .int st, .int en, .int many] [] (fun r ex' => r = .int (fI st (st + many) (fD st en q)) ∧ ex' = []) := by
  refine SpecC.body rfl rfl rfl rfl (by decide) (fun _ _ _ _ => rfl) ?_
  intro f K O hK
  have fin : ∀ z : Int, z = fI st (st + many) (fD st en q) → SV.int z = .int (fI st (st + many) (fD st en q)) := fun _ h => congrArg _ h
  refine ex_ifd O (.andT (.notN (by repeat' (first | constructor | omega)) (by repeat' constructor)) (.gt (by repeat' (first | constructor | omega)) (by repeat' (first | constructor | omega)))) (fun h => ?_) (fun h => ex_nilS (ex_ret (ev_pe O (by repeat' (first | constructor | omega)) (hK (by repeat' constructor) ⟨fin _ ?_, rfl⟩))))
  · refine ex_assign (ev_ifexpd O (.gt (by repeat' (first | constructor | omega)) (by repeat' (first | constructor | omega))) (fun h1 => ev_pe O (by repeat' (first | constructor | omega)) (as_loc O rfl ?_)) (fun h1 => ev_pe O (by repeat' (first | constructor | omega)) (as_loc O rfl ?_)))
    · exact ex_assign (ev_ifexpd O (.gt (by repeat' (first | constructor | omega)) (by repeat' (first | constructor | omega))) (fun h2 => ev_pe O (by repeat' (first | constructor | omega)) (as_loc O rfl (ex_nilS (ex_ret (ev_pe O (by repeat' (first | constructor | omega)) (hK (by repeat' constructor) ⟨fin _ (by unfold fI fD; omega), rfl⟩)))))) (fun h2 => ev_pe O (by repeat' (first | constructor | omega)) (as_loc O rfl (ex_nilS (ex_ret (ev_pe O (by repeat' (first | constructor | omega)) (hK (by repeat' constructor) ⟨fin _ (by unfold fI fD; omega), rfl⟩)))))))
    · exact ex_assign (ev_ifexpd O (.gt (by repeat' (first | constructor | omega)) (by repeat' (first | constructor | omega))) (fun h2 => ev_pe O (by repeat' (first | constructor | omega)) (as_loc O rfl (ex_nilS (ex_ret (ev_pe O (by repeat' (first | constructor | omega)) (hK (by repeat' constructor) ⟨fin _ (by unfold fI fD; omega), rfl⟩)))))) (fun h2 => ev_pe O (by repeat' (first | constructor | omega)) (as_loc O rfl (ex_nilS (ex_ret (ev_pe O (by repeat' (first | constructor | omega)) (hK (by repeat' constructor) ⟨fin _ (by unfold fI fD; omega), rfl⟩)))))))
  · unfold fI fD; omega
theorem movedN_spec {st en many : Int} : SpecC Z 1 590 [.none, .int st, .int en, .int many] [] (fun r ex' => r = .none ∧ ex' = []) := by
  refine SpecC.body rfl rfl rfl rfl (by decide) (fun _ _ _ _ => rfl) ?_
  intro f K O hK
  exact ex_ifF O (.andF (.notN (by repeat' (first | constructor | omega)) (by repeat' constructor))) (ex_nilS (ex_ret (ev_pe O (by repeat' (first | constructor | omega)) (hK (by repeat' constructor) ⟨rfl, rfl⟩))))
abbrev modelL (Md Rg : Addr) (mp : SV) (pl : List Int) : List SE := [.list Md [mp, .ref Rg], .list Rg (pl.map .int)]
theorem pushedN_spec {Md Rg : Addr} {pl : List Int} {most : Int} : SpecC Z 1 604 [.ref Md, .int most, .int place] (modelL Md Rg .none pl) (fun r ex' => ∃ Md' Rg', r = .ref Md' ∧ ex' = modelL Md' Rg' (.int place) pl) := by
  refine SpecC.body rfl rfl rfl rfl (by decide) (fun _ _ _ => rfl) ?_
  intro f K O hK
  refine ex_assign (ev_pe O (by repeat' (first | constructor | omega)) (as_lst2 (by repeat' constructor) (as_loc O rfl (as_loc O rfl ?_))))
  refine ex_ret (ev_list (args_ev (ev_pe O (by repeat' (first | constructor | omega)) (args_ev (ev_ifT O (.isN (by repeat' (first | constructor | omega)) (by repeat' constructor)) (ev_pe O (by repeat' (first | constructor | omega)) (args_nilE ⟨(Nat.le_of_ble_eq_true rfl), fun D => hK (by repeat' constructor) ⟨D, Rg, rfl, rfl⟩⟩)))))))
theorem pushedS_spec {Md Rg : Addr} {pl : List Int} {most q : Int} (hm : 0 ≤ most) (hl : pl.length ≤ 1000) : SpecC Z 1 604 [.ref Md, .int most, .int place] (modelL Md Rg (.int q) pl) (fun r ex' => ∃ Md' Rg', r = .ref Md' ∧ ex' = modelL Md' Rg' (.int place) ((q :: pl).take most.toNat)) := by
  refine SpecC.body rfl rfl rfl rfl (by decide) (fun _ _ _ => rfl) ?_
  intro f K O hK
  refine ex_assign (ev_pe O (by repeat' (first | constructor | omega)) (as_lst2 (by repeat' constructor) (as_loc O rfl (as_loc O rfl ?_))))
  refine ex_ret (ev_list (args_ev (ev_pe O (by repeat' (first | constructor | omega)) (args_ev (ev_ifF O (.isN (by repeat' (first | constructor | omega)) (by repeat' constructor)) (ev_sliceE O (ev_cat O (ev_list (args_pe O (by repeat' (first | constructor | omega)) ⟨(Nat.le_of_ble_eq_true rfl), fun D => ⟨D, rfl, ?_⟩⟩)))))))))
  refine ev_pe O (by repeat' (first | constructor | omega)) ⟨_, _, _, rfl, (by repeat' constructor), (by repeat' constructor), ?_, fun D2 => ⟨D2, _, none, some most, rfl, (by repeat' constructor), .none, .some (by repeat' (first | constructor | omega)), ?_, fun D3 => args_nilE ⟨(Nat.le_of_ble_eq_true rfl), fun D4 => ?_⟩⟩⟩
  · simp; omega
  · simp; omega
  rw [show pick ([SV.int q] ++ pl.map SV.int) none (some most) = ((q :: pl).take most.toNat).map SV.int by rw [show [SV.int q] ++ pl.map SV.int = (q :: pl).map SV.int from rfl, pick_to hm, ← List.map_take]]
  exact hK (by repeat' constructor) ⟨D4, D3, rfl, rfl⟩
theorem poppedN_spec {Md Rg : Addr} {pl : List Int} {most : Int} : SpecC Z 2 597 [.ref Md, .int most] (modelL Md Rg .none pl)
    (fun r ex' => ∃ T P E, r = .ref T ∧ ex' = .list T [.ref P, .ref Md] :: .list P [.str (Str.ofString "error"), .ref E] :: .list E [.str (Str.ofString "The mark is not set now, so there is no region")] :: modelL Md Rg .none pl) := by
  refine SpecC.body rfl rfl rfl rfl (by decide) (fun _ _ => rfl) ?_
  intro f K O hK
  refine ex_assign (ev_pe O (by repeat' (first | constructor | omega)) (as_lst2 (by repeat' constructor) (as_loc O rfl (as_loc O rfl ?_))))
  refine ex_ifT O (.isN (by repeat' (first | constructor | omega)) (by repeat' constructor)) (ex_ret (ev_list (args_ev (ev_list (args_ev (ev_pe O (by repeat' (first | constructor | omega)) (args_ev (ev_list (args_pe O (by repeat' (first | constructor | omega)) ⟨(Nat.le_of_ble_eq_true rfl), fun E => args_nilE ⟨(Nat.le_of_ble_eq_true rfl), fun P => args_ev (ev_pe O (by repeat' (first | constructor | omega)) (args_nilE ⟨(Nat.le_of_ble_eq_true rfl), fun T => ?_⟩))⟩⟩)))))))))
  exact hK (by repeat' constructor) ⟨T, P, E, rfl, rfl⟩
theorem poppedS_spec {Md Rg : Addr} {pl : List Int} {most q : Int} (hl : pl.length ≤ 1000) : SpecC Z 3 597 [.ref Md, .int most] (modelL Md Rg (.int q) pl)
    (fun r ex' => ∃ T P Md' Rg' q' pl', r = .ref T ∧ ex' = .list T [.ref P, .ref Md'] :: .list P [.str (Str.ofString "told"), .int q] :: modelL Md' Rg' (.int q') pl' ∧ q' = (match pl with | [] => q | z :: _ => z) ∧ pl' = match pl with | [] => [] | _ :: r => r ++ [q]) := by
  refine SpecC.body rfl rfl rfl rfl (by decide) (fun _ _ => rfl) ?_
  intro f K O hK
  refine ex_assign (ev_pe O (by repeat' (first | constructor | omega)) (as_lst2 (by repeat' constructor) (as_loc O rfl (as_loc O rfl ?_))))
  refine ex_ifF O (.isN (by repeat' (first | constructor | omega)) (by repeat' constructor)) (ex_nilS ?_)
  refine ex_ifG (tst_eqL O (by decide) (ev_pe O (by repeat' (first | constructor | omega)) ⟨Rg, rfl, ev_list (args_nilE ⟨(Nat.le_of_ble_eq_true rfl), fun D => ⟨D, pl, [], rfl, (by repeat' constructor), (by repeat' constructor), fun h => ?_, fun h => ex_nilS ?_⟩⟩)⟩))
  · have e : pl = [] := of_decide_eq_true h
    subst e
    refine ex_ret (ev_list (args_ev (ev_list (args_pe O (by repeat' (first | constructor | omega)) ⟨(Nat.le_of_ble_eq_true rfl), fun P => args_ev (ev_pe O (by repeat' (first | constructor | omega)) (args_nilE ⟨(Nat.le_of_ble_eq_true rfl), fun T => ?_⟩))⟩))))
    exact hK (by repeat' constructor) ⟨T, P, Md, Rg, q, [], rfl, rfl, rfl, rfl⟩
  · have e : pl ≠ [] := of_decide_eq_false h
    obtain ⟨z, r, rfl⟩ := List.exists_cons_of_ne_nil e
    refine ex_ret (ev_list (args_ev (ev_list (args_pe O (by repeat' (first | constructor | omega)) ⟨(Nat.le_of_ble_eq_true rfl), fun P => args_ev (ev_list (args_ev (ev_pe O (.idx (by repeat' (first | constructor | omega)) (by repeat' constructor) (by repeat' (first | constructor | omega)) (by decide) (by decide) rfl) (args_ev (ev_cat O (ev_slice O (by repeat' (first | constructor | omega)) (by repeat' constructor) (.some (by repeat' (first | constructor | omega))) .none ?_ fun D2 => ⟨D2, rfl, ev_list (args_pe O (by repeat' (first | constructor | omega)) ⟨(Nat.le_of_ble_eq_true rfl), fun D3 => ⟨_, _, _, rfl, (by repeat' constructor), (by repeat' constructor), ?_, fun D4 => args_nilE ⟨(Nat.le_of_ble_eq_true rfl), fun D5 => args_nilE ⟨(Nat.le_of_ble_eq_true rfl), fun T => ?_⟩⟩⟩⟩)⟩))))))⟩))))
    · simp at hl ⊢; omega
    · rw [pick_from (by decide)]; simp at hl ⊢; omega
    rw [show pick ((z :: r).map SV.int) (some 1) none ++ [SV.int q] = (r ++ [q]).map SV.int by rw [pick_from (by decide)]; simp]
    exact hK (by repeat' constructor) ⟨T, P, D5, D4, z, r ++ [q], rfl, rfl, rfl, rfl⟩
end
def posI (ms : List Mark) (n : Int) : Int := ((ms.find? fun k => decide (k.num = n)).map (·.pos)).getD 0
theorem posI_of {ms : List Mark} (hn : (ms.map (·.num)).Nodup) {k : Mark} (hk : k ∈ ms) : posI ms k.num = k.pos := by
  induction ms with
  | nil => cases hk
  | cons q r ih =>
    rw [List.map_cons] at hn
    have hn2 := (List.nodup_cons.mp hn).2
    show ((List.find? (fun k9 : Mark => decide (k9.num = k.num)) (q :: r)).map (·.pos)).getD 0 = k.pos
    by_cases e : q.num = k.num
    · rw [List.find?_cons_of_pos (by simpa using e)]
      rcases List.mem_cons.mp hk with rfl | hk
      · rfl
      · exact absurd (e ▸ List.mem_map.mpr ⟨k, hk, rfl⟩) (List.nodup_cons.mp hn).1
    · rw [List.find?_cons_of_neg (by simpa using e)]
      rcases List.mem_cons.mp hk with rfl | hk
      · exact absurd rfl e
      · exact ih hn2 hk
theorem take_step {α β : Type} (g : α → β) {l : List α} {i : Nat} {q : α} (h : l[i]? = some q) : (l.take (i + 1)).map g = (l.take i).map g ++ [g q] := by
  rw [List.take_add_one, h]; simp
noncomputable def mpOf : Option Mark → SV
  | none => .none
  | some q => .int q.pos
theorem right_good (P : Params) : fnGoodC (Mine.hd.heap_39 P) 609 (Str.ofString "buffer") [Str.ofString "ring", Str.ofString "model"] = true := by kernel_rfl
theorem Weak.outM {Z : Wd} {m : List (Str × SV)} {led rest : List SE} {B : Addr} {q : Mark} {ms : List Mark} (hq : q ∈ ms) (T : Take (.marks B ms) led rest) :
    ∃ ms', Weak Z ⟨m, led⟩ ⟨m, markE q.a q.num (.ref B) q.pos :: .marks B ms' :: rest⟩ ∧ Weak Z ⟨m, markE q.a q.num (.ref B) q.pos :: .marks B ms' :: rest⟩ ⟨m, led⟩ := by
  obtain ⟨x, y, rfl⟩ := List.append_of_mem hq
  exact ⟨x ++ y, Weak.out T, (Weak.inn .head .head).trans (Weak.perm T.perm.symm)⟩
abbrev sysR (x : Fx) (v : Vr) : List SE := [bufE x.B x.G x.M x.LI v.pt v.bv v.zv v.mkv, mksE x.M x.R, .rows x.R (v.ms.map Mark.key), .marks x.B v.ms, gapE x.G x.c v.gs v.ge, .anyL x.c v.N, ringE x.RG v.RL x.most v.last, .list x.LI []]
section
variable {Z : Wd}
theorem tst_weak {n : Fn} {f : Frm} {σ σ2 : St} {e : Expr} {K : Bool → St → Prop} (h : Weak Z σ σ2) (t : TestOk Z n f σ2 e K) : TestOk Z n f σ e K := fun whole hw => Ev.weak (t whole hw) (h f)
theorem ex_ifF2 {n : Fn} {f : Frm} {σ σ2 : St} {t : Expr} {A rest : List Stmt} {pos : Pos} {K : Fl → St → Prop} (h : TestOk Z n f σ t fun b σ1 => b = false ∧ Weak Z σ1 σ2) (hr : ExOk Z n f σ2 rest K) : ExOk Z n f σ (.If t A [] pos :: rest) K :=
  ex_ifG (fun whole hw => Ev.mono (h whole hw) (by
    rintro b σ1 ⟨rfl, hw⟩
    exact ⟨fun h => (nomatch h), fun _ => ex_nilS (ex_weak hw hr)⟩))
theorem right_spec {x : Fx} {v : Vr} {Md Rg : Addr} (I : Inv x v) : SpecC Z 6 609 [.ref x.B, .ref x.RG, .ref Md] (sysL x v ++ modelL Md Rg (mpOf v.k0) (v.rs.map (·.pos))) (fun r ex' => r = .bool true ∧ ex' = sysL x v ++ modelL Md Rg (mpOf v.k0) (v.rs.map (·.pos))) := by
  refine SpecC.bodyC rfl rfl (right_good _) rfl (by decide) (fun _ _ _ => rfl) (fun _ => rfl) ?_
  intro f K c O hK
  have hlen := I.ms_len
  have hnd := I.ms_nd
  obtain ⟨RL, pt, bv, zv, gs, ge, N, last, k0, rs⟩ := v
  have hrl : rs.length ≤ 4 := by have := hlen; rw [List.length_append] at this; dsimp only at this; omega
  refine ex_assign (ev_pe O (by repeat' (first | constructor | omega)) (as_lst2 (by repeat' constructor) (as_loc O rfl (as_loc O rfl ?_))))
  refine ex_ifF2 (σ2 := ⟨[(Str.ofString "places", .ref Rg), (Str.ofString "mark", mpOf k0), (Str.ofString "ring", .ref x.RG), (Str.ofString "model", .ref Md)], .cell c (.ref x.B) :: (sysL x ⟨RL, pt, bv, zv, gs, ge, N, last, k0, rs⟩ ++ modelL Md Rg (mpOf k0) (rs.map (·.pos)))⟩) ?_ ?_
  · cases k0 with
    | none =>
      refine tst_or (tst_neB O (ev_call O rfl rfl rfl rfl (args_pe O (.cons (.cel rfl rfl rfl (by repeat' constructor)) .nil) (SpecC.call hasN_spec O (by decide) (by repeat' constructor) ?_))))
      rintro _ _ ⟨rfl, rfl⟩
      exact ⟨false, rfl, ev_pe O (.notN (by repeat' (first | constructor | omega)) (by repeat' constructor)) ⟨false, rfl, fun h => (nomatch h), fun _ => tst_te O (.andF (.notN (by repeat' (first | constructor | omega)) (by repeat' constructor))) ⟨rfl, Weak.split (by repeat' constructor)⟩⟩⟩
    | some q =>
      obtain ⟨ms', w1, w2⟩ := Weak.outM (Z := Z) (m := [(Str.ofString "places", .ref Rg), (Str.ofString "mark", .int q.pos), (Str.ofString "ring", .ref x.RG), (Str.ofString "model", .ref Md)]) (B := x.B) (q := q) (ms := (some q).toList ++ rs) (led := .cell c (.ref x.B) :: (sysL x ⟨RL, pt, bv, zv, gs, ge, N, last, some q, rs⟩ ++ modelL Md Rg (mpOf (some q)) (rs.map (·.pos)))) (List.Mem.head _) (by repeat' constructor)
      refine tst_weak w1 ?_
      refine tst_or (tst_neB O (ev_call O rfl rfl rfl rfl (args_pe O (.cons (.cel rfl rfl rfl (by repeat' constructor)) .nil) (SpecC.call hasS_spec O (by decide) (by repeat' constructor) ?_))))
      rintro _ _ ⟨rfl, rfl⟩
      refine ⟨true, rfl, ev_pe O (.notN (by repeat' (first | constructor | omega)) (by repeat' constructor)) ⟨true, rfl, fun h => (nomatch h), fun _ => tst_and (tst_te (b := true) O (.notN (by repeat' (first | constructor | omega)) rfl) ⟨fun h => (nomatch h), fun _ => ?_⟩)⟩⟩
      refine tst_neI O (ev_call O rfl rfl rfl rfl (args_pe O (.cons (.cel rfl rfl rfl (by repeat' constructor)) .nil) (SpecC.call place_spec O (by decide) (by repeat' constructor) ?_)))
      rintro _ _ ⟨rfl, rfl⟩
      exact ⟨q.pos, rfl, ev_pe O (by repeat' (first | constructor | omega)) ⟨q.pos, rfl, by simp, (Weak.split (by repeat' constructor)).trans w2⟩⟩
  refine ex_ifF2 (σ2 := ⟨[(Str.ofString "places", .ref Rg), (Str.ofString "mark", mpOf k0), (Str.ofString "ring", .ref x.RG), (Str.ofString "model", .ref Md)], .cell c (.ref x.B) :: (sysL x ⟨RL, pt, bv, zv, gs, ge, N, last, k0, rs⟩ ++ modelL Md Rg (mpOf k0) (rs.map (·.pos)))⟩) ?_ ?_
  · refine tst_neL O (by decide) (ev_comp O rfl (by decide) rfl (by decide) rfl (ev_pe O (by repeat' (first | constructor | omega)) ⟨RL, rs.map fun q => .ref q.a, ⟨_, .cell c (.ref x.B) :: (sysR x ⟨RL, pt, bv, zv, gs, ge, N, last, k0, rs⟩ ++ modelL Md Rg (mpOf k0) (rs.map (·.pos)))⟩, fun i => ((rs.take i).map (·.pos)).map .int, rfl, Weak.split (by repeat' constructor), ?_, rfl, ?_, ?_, fun D => ?_⟩))
    · rw [List.length_map]; show rs.length ≤ _; omega
    · intro i
      rw [List.length_map, List.length_map]; exact List.length_take_le _ _
    · intro i u own C hu hin O4
      rw [List.getElem?_map] at hu
      obtain ⟨q, hq, rfl⟩ := Option.map_eq_some_iff.mp hu
      obtain ⟨ms', w1, w2⟩ := Weak.outM (Z := Z) (m := [(Str.ofString "places", .ref Rg), (Str.ofString "mark", mpOf k0), (Str.ofString "ring", .ref x.RG), (Str.ofString "model", .ref Md)]) (B := x.B) (q := q) (ms := k0.toList ++ rs) (led := .cell c (.ref x.B) :: (sysR x ⟨RL, pt, bv, zv, gs, ge, N, last, k0, rs⟩ ++ modelL Md Rg (mpOf k0) (rs.map (·.pos)))) (List.mem_append_right _ (List.mem_of_getElem? hq)) (by repeat' constructor)
      exact tests_none ⟨fun h => (nomatch h), fun _ => Ev.weak (el_ce O4 rfl rfl (by decide) hin (.attrN .var (by repeat' constructor) rfl rfl) ⟨by show ((rs.take (i + 1)).map _).map _ = _; rw [take_step _ hq, List.map_append]; rfl, w2⟩) (w1 _)⟩
    · refine ⟨D, rfl, ev_pe O (by repeat' (first | constructor | omega)) ⟨Rg, rs.map (·.pos), rs.map (·.pos), rfl, ?_, (by repeat' constructor), ?_, ?_⟩⟩
      · rw [List.length_map]; exact List.mem_cons.mpr (.inl (by dsimp only; rw [List.take_length]))
      · simp
      · exact Weak.split (by repeat' constructor)
  have hkey : ((k0.toList ++ rs).map Mark.key).length < 64 := by rw [List.length_map]; exact Nat.lt_of_le_of_lt hlen (by decide)
  refine ex_assign (ev_sortedL O rfl rfl (ev_comp O rfl (by decide) rfl (by decide) rfl (ev_meth O (.attrN (.cel rfl rfl rfl (by repeat' constructor)) (by repeat' constructor) rfl rfl) (by repeat' constructor) rfl rfl rfl (args_nilE (SpecC.call (numbers_spec hkey) O (by decide) (by repeat' constructor) ?_)))))
  rintro _ _ ⟨D, ns, rfl, h1, h2, rfl⟩
  have hns : ns.length ≤ 4 := by rw [h1.length_eq, List.length_map, List.length_map]; exact hlen
  have hpos : (ns.map (posI (k0.toList ++ rs))).Perm ((k0.toList ++ rs).map (·.pos)) := by
    refine (h1.map _).trans ?_
    rw [List.map_map, List.map_map]
    exact List.Perm.of_eq (List.map_congr_left fun q hq => posI_of hnd hq)
  refine ⟨D, ns.map .int, ⟨[(Str.ofString "places", .ref Rg), (Str.ofString "mark", mpOf k0), (Str.ofString "ring", .ref x.RG), (Str.ofString "model", .ref Md)], .cell c (.ref x.B) :: (sysL x ⟨RL, pt, bv, zv, gs, ge, N, last, k0, rs⟩ ++ modelL Md Rg (mpOf k0) (rs.map (·.pos)))⟩, fun i => ((ns.take i).map (posI (k0.toList ++ rs))).map .int, rfl, Weak.split (by repeat' constructor), ?_, rfl, ?_, ?_, fun D1 => ?_⟩
  · rw [List.length_map]; omega
  · intro i
    rw [List.length_map, List.length_map]; exact List.length_take_le _ _
  · intro i u own C hu hin O4
    rw [List.getElem?_map] at hu
    obtain ⟨nn, hn, rfl⟩ := Option.map_eq_some_iff.mp hu
    have hm := h1.mem_iff.mp (List.mem_of_getElem? hn)
    rw [List.map_map] at hm
    obtain ⟨q, hq, rfl⟩ := List.mem_map.mp hm
    obtain ⟨ms', w1, w2⟩ := Weak.outM (Z := Z) (m := [(Str.ofString "places", .ref Rg), (Str.ofString "mark", mpOf k0), (Str.ofString "ring", .ref x.RG), (Str.ofString "model", .ref Md)]) (B := x.B) (q := q) (ms := k0.toList ++ rs) (led := .cell c (.ref x.B) :: (sysL x ⟨RL, pt, bv, zv, gs, ge, N, last, k0, rs⟩ ++ modelL Md Rg (mpOf k0) (rs.map (·.pos)))) hq (by repeat' constructor)
    exact tests_none ⟨fun h => (nomatch h), fun _ => Ev.weak (el_ce O4 rfl rfl (by decide) hin (.attrS (.row (.attrA (.attrN (.cel rfl rfl rfl (by repeat' constructor)) (by repeat' constructor) rfl rfl) (by repeat' constructor) rfl rfl) (by repeat' constructor) .var (List.mem_map.mpr ⟨q, hq, rfl⟩)) (by repeat' constructor) rfl rfl) ⟨by show ((ns.take (i + 1)).map _).map _ = _; rw [take_step _ hn, List.map_append]; show _ = _ ++ [SV.int q.pos]; rw [← posI_of hnd hq]; rfl, w2⟩) (w1 _)⟩
  refine ⟨D1, ns.map (posI (k0.toList ++ rs)), rfl, ?_, ?_, fun D2 m1 p1 s1 => as_loc O rfl ?_⟩
  · rw [List.length_map]; exact List.mem_cons.mpr (.inl (by dsimp only; rw [List.take_length]))
  · rw [List.length_map]; omega
  refine ex_weak (σ' := ⟨[(Str.ofString "there", .ref D2), (Str.ofString "places", .ref Rg), (Str.ofString "mark", mpOf k0), (Str.ofString "ring", .ref x.RG), (Str.ofString "model", .ref Md)], .list D2 (m1.map .int) :: (.cell c (.ref x.B) :: (sysL x ⟨RL, pt, bv, zv, gs, ge, N, last, k0, rs⟩ ++ modelL Md Rg (mpOf k0) (rs.map (·.pos))))⟩) (Weak.split (by repeat' constructor)) ?_
  have fin : ∀ {m2 : List Int} {D3 led}, m2.Perm ((k0.toList ++ rs).map (·.pos)) → m2.Pairwise (· ≤ ·) → Split led (sysL x ⟨RL, pt, bv, zv, gs, ge, N, last, k0, rs⟩ ++ modelL Md Rg (mpOf k0) (rs.map (·.pos))) D3 → K (.bool (decide (m1 = m2))) led := by
    intro m2 D3 led p2 s2 sp
    have e : m1 = m2 := sort_same ((p1.trans hpos).trans p2.symm) s1 s2
    exact hK sp ⟨by rw [decide_eq_true e], rfl⟩
  cases k0 with
  | none =>
    refine ex_ret (ev_eqL O (by decide) (ev_pe O (by repeat' (first | constructor | omega)) ⟨D2, rfl, ev_sortedL O rfl rfl (ev_cat O (ev_pe O (by repeat' (first | constructor | omega)) ⟨Rg, rfl, ev_ifT O (.isN (by repeat' (first | constructor | omega)) (by repeat' constructor)) (ev_list (args_nilE ⟨(Nat.le_of_ble_eq_true rfl), fun D4 => ⟨D4, (rs.map (·.pos)).map .int, [], rfl, (by repeat' constructor), (by repeat' constructor), ?_, fun D5 => ⟨D5, rs.map (·.pos), rfl, ?_, ?_, fun D6 m2 p2 s2 => ⟨D6, m1, m2, rfl, (by repeat' constructor), (by repeat' constructor), fin p2 s2 (by repeat' constructor)⟩⟩⟩⟩))⟩))⟩))
    · simp; omega
    · rw [List.append_nil]; exact (by repeat' constructor)
    · rw [List.length_map]; omega
  | some q =>
    refine ex_ret (ev_eqL O (by decide) (ev_pe O (by repeat' (first | constructor | omega)) ⟨D2, rfl, ev_sortedL O rfl rfl (ev_cat O (ev_pe O (by repeat' (first | constructor | omega)) ⟨Rg, rfl, ev_ifF O (.isN (by repeat' (first | constructor | omega)) (by repeat' constructor)) (ev_list (args_pe O (by repeat' (first | constructor | omega)) ⟨(Nat.le_of_ble_eq_true rfl), fun D4 => ⟨D4, (rs.map (·.pos)).map .int, [.int q.pos], rfl, (by repeat' constructor), (by repeat' constructor), ?_, fun D5 => ⟨D5, rs.map (·.pos) ++ [q.pos], rfl, ?_, ?_, fun D6 m2 p2 s2 => ⟨D6, m1, m2, rfl, (by repeat' constructor), (by repeat' constructor), fin (p2.trans (List.perm_append_singleton _ _)) s2 (by repeat' constructor)⟩⟩⟩⟩))⟩))⟩))
    · simp; omega
    · rw [List.map_append]; exact (by repeat' constructor)
    · simp; omega
end
theorem pick_map {α β : Type} (g : α → β) (l : List α) (lo hi : Option Int) : pick (l.map g) lo hi = (pick l lo hi).map g := by
  unfold pick
  rw [List.length_map, ← List.map_drop, ← List.map_take]
theorem pick_len40 (ns : List Int) : (pick ns none (some 40)).length ≤ 40 := by
  unfold pick kms_lo kms_hi
  rw [List.length_take]
  dsimp only
  split <;> omega
section
variable {Z : Wd}
theorem deck_spec {S : Addr} {ns : List Int} (hz : ns.length ≤ 100000) : SpecH (BaseL S ns) Z 2 569 [.ref S, .int 40] [] (fun r ex' => ∃ D ID js cc, r = .ref D ∧ js.length ≤ 40 ∧ ex' = deckL D ID js 0 cc) := by
  refine SpecH.bodyG BaseL.stays rfl rfl rfl (by decide) (m0 := [(Str.ofString "script", .ref S), (Str.ofString "most", .int 40)]) (fun vs' hv _ _ => ⟨[Str.ofString "script", Str.ofString "most"].zip vs', BindsTo.of_eq (BindOk.zip (xs := [Str.ofString "script", Str.ofString "most"]) (fun _ _ => rfl) (vsAre_len hv)), zip_fst (vsAre_len hv), fun _ _ hx => zip_lookup hv hx⟩) ?_
  intro f K hB O hK
  have hl := pick_len40 ns
  generalize hjs : pick ns none (some 40) = js at hl
  refine ex_ret (ev_list (args_ev (ev_comp O rfl (by decide) rfl (by decide) rfl (ev_sliceH O hB (by repeat' (first | constructor | omega)) .none (.some (by repeat' (first | constructor | omega))) hz fun D => ?_))))
  rw [pick_map, hjs]
  refine ⟨D, _, ⟨[(Str.ofString "script", .ref S), (Str.ofString "most", .int 40)], []⟩, fun i => ((js.take i).map fun q => if q < 0 then -q else q).map .int, rfl, fun _ _ h => h, ?_, rfl, ?_, ?_, fun D1 => ?_⟩
  · rw [List.length_map]; omega
  · intro i
    rw [List.length_map, List.length_map]; exact List.length_take_le _ _
  · intro i u own C hu hin O4
    rw [List.getElem?_map] at hu
    obtain ⟨q, hq, rfl⟩ := Option.map_eq_some_iff.mp hu
    exact tests_none ⟨fun h => (nomatch h), fun _ => el_abs O4 rfl rfl (by decide) hin rfl .var ⟨by show ((js.take (i + 1)).map _).map _ = _; rw [take_step _ hq, List.map_append]; rfl, fun _ _ h => h⟩⟩
  dsimp only
  rw [List.length_map, List.take_length]
  refine args_ev (ev_pe O (by repeat' (first | constructor | omega)) (args_ev (ev_add O (ev_pe O (by repeat' (first | constructor | omega)) ⟨977, rfl, ev_lenE O rfl rfl (ev_comp O rfl (by decide) rfl (by decide) rfl (ev_sliceH O hB (by repeat' (first | constructor | omega)) .none (.some (by repeat' (first | constructor | omega))) hz fun D2 => ?_))⟩))))
  rw [pick_map, hjs]
  refine ⟨D2, _, ⟨[(Str.ofString "script", .ref S), (Str.ofString "most", .int 40)], _⟩, fun i => ((js.take i).filter fun q => decide (q < 0)).map .int, rfl, fun _ _ h => h, ?_, rfl, ?_, ?_, fun D3 => ?_⟩
  · rw [List.length_map]; omega
  · intro i
    rw [List.length_map]; exact Nat.le_trans (List.length_filter_le _ _) (List.length_take_le _ _)
  · intro i u own C hu hin O4
    rw [List.getElem?_map] at hu
    obtain ⟨q, hq, rfl⟩ := Option.map_eq_some_iff.mp hu
    have e : js.take (i + 1) = js.take i ++ [q] := by rw [List.take_add_one, hq]; rfl
    refine tests_lt O4 rfl rfl (by decide) hin .var ⟨fun h => ⟨?_, fun _ _ h => h⟩, fun h => el_ce O4 rfl rfl (by decide) hin .var ⟨?_, fun _ _ h => h⟩⟩
    · show List.map _ (List.filter _ (js.take (i + 1))) = _
      rw [e, List.filter_append]; simp [of_decide_eq_false h]
    · show List.map _ (List.filter _ (js.take (i + 1))) = _
      rw [e, List.filter_append]; simp [of_decide_eq_true h]
  dsimp only
  generalize hcn : List.map SV.int (List.filter (fun q => decide (q < 0)) (List.take (List.map SV.int js).length js)) = cn
  have hcl : cn.length ≤ 40 := by rw [← hcn, List.length_map]; exact Nat.le_trans (List.length_filter_le _ _) (Nat.le_trans (List.length_take_le _ _) (by rw [List.length_map]; exact hl))
  refine ⟨D3, cn.length, rfl, .list, by omega, cn.length, rfl, args_nilE ⟨(Nat.le_of_ble_eq_true rfl), fun D4 => hK (by repeat' constructor) ⟨D4, D1, js.map fun q => if q < 0 then -q else q, _, rfl, by rw [List.length_map]; exact hl, rfl⟩⟩⟩
end
section
variable {Z : Wd}
theorem ring_init {a : Addr} {most : Int} : SpecC Z 1 207 [.ref a, .int most] [.obj a 210 []] (fun r ex' => ∃ RL, r = .none ∧ ex' = [ringE a RL most 0, .list RL []]) := by
  refine SpecC.body rfl rfl rfl rfl (by decide) (fun _ _ => rfl) ?_
  intro f K O hK
  refine ex_assign (ev_pe O (by repeat' (first | constructor | omega)) (as_attr O (by repeat' (first | constructor | omega)) (by repeat' constructor) rfl ?_))
  refine ex_assign (ev_list (args_nilE ⟨(Nat.le_of_ble_eq_true rfl), fun RL => as_attr O (by repeat' (first | constructor | omega)) (by repeat' constructor) rfl ?_⟩))
  exact ex_assign (ev_pe O (by repeat' (first | constructor | omega)) (as_attr O (by repeat' (first | constructor | omega)) (by repeat' constructor) rfl (ex_nil (hK (by repeat' constructor) ⟨RL, rfl, rfl⟩))))
theorem marks_init {a : Addr} : SpecC Z 1 130 [.ref a] [.obj a 182 []] (fun r ex' => ∃ R, r = .none ∧ ex' = [mksE a R, .rows R []]) := by
  refine SpecC.body rfl rfl rfl rfl (by decide) (fun _ => rfl) ?_
  intro f K O hK
  exact ex_assign (ev_dict O fun R => as_attr O (by repeat' (first | constructor | omega)) (by repeat' constructor) rfl (ex_nil (hK (by repeat' constructor) ⟨R, rfl, rfl⟩)))
theorem gap_init {a l : Addr} : SpecC Z 1 277 [.ref a, .ref l, .int 2] [.obj a 350 [], .list l []] (fun r ex' => ∃ c, r = .none ∧ ex' = [gapE a c 0 2, .anyL c 2]) := by
  refine SpecC.body rfl rfl rfl rfl (by decide) (fun _ _ _ => rfl) ?_
  intro f K O hK
  refine ex_assign (ev_pe O (by repeat' (first | constructor | omega)) (as_attr O (by repeat' (first | constructor | omega)) (by repeat' constructor) rfl ?_))
  refine ex_assign (ev_catA O (ev_listcopy O rfl (by repeat' (first | constructor | omega)) (by repeat' constructor) (Nat.le_of_ble_eq_true rfl) fun b => ⟨b, rfl, ev_weak Weak.anyL (ev_mulA O (ev_listA (args_pe O (by repeat' (first | constructor | omega)) ⟨1, rfl, by decide, fun d => ⟨d, 2, rfl, (by repeat' (first | constructor | omega)), (by repeat' constructor), by decide, by decide, fun e => ⟨e, 0, 2, rfl, (by repeat' constructor), (by repeat' constructor), by decide, fun c => as_attr O (by repeat' (first | constructor | omega)) (by repeat' constructor) rfl ?_⟩⟩⟩)))⟩))
  refine ex_assign (ev_pe O (.len rfl (by repeat' (first | constructor | omega)) (by repeat' constructor) (by decide)) (as_attr O (by repeat' (first | constructor | omega)) (by repeat' constructor) rfl ?_))
  exact ex_assign (ev_pe O (.add (.len rfl (by repeat' (first | constructor | omega)) (by repeat' constructor) (by decide)) (by repeat' (first | constructor | omega))) (as_attr O (by repeat' (first | constructor | omega)) (by repeat' constructor) rfl (ex_nil (hK (by repeat' constructor) ⟨c, rfl, rfl⟩))))
theorem buf_init {a : Addr} : SpecC Z 4 369 [.ref a, .int 1, .str (Str.ofString "b"), .int 2] [.obj a 456 []] (fun r ex' => ∃ G M LI R c, r = .none ∧ ex' = [bufE a G M LI 1 1 1 .none, mksE M R, .rows R [], gapE G c 0 2, .anyL c 2, .list LI []]) := by
  refine SpecC.bodyG (m0 := [Str.ofString "self", Str.ofString "number", Str.ofString "name", Str.ofString "room"].zip [.ref a, .int 1, .str (Str.ofString "b"), .int 2]) rfl rfl rfl (by decide) ?_ ?_
  · rintro _ ⟨v1, _, rfl, rfl, v2, _, rfl, ⟨t, rfl⟩, v3, _, rfl, ⟨t2, rfl⟩, v4, _, rfl, ⟨t3, rfl⟩, rfl⟩ s X
    exact ⟨[Str.ofString "self", Str.ofString "number", Str.ofString "name", Str.ofString "room"].zip [.ref a, .int 1 t, .str (Str.ofString "b") t2, .int 2 t3], binds_K X rfl rfl rfl rfl rfl, rfl, fun x v hx => zip_lookup (vs := [.ref a, .int 1, .str (Str.ofString "b"), .int 2]) ⟨_, _, rfl, rfl, _, _, rfl, ⟨t, rfl⟩, _, _, rfl, ⟨t2, rfl⟩, _, _, rfl, ⟨t3, rfl⟩, rfl⟩ hx⟩
  intro f K O hK
  refine ex_assign (ev_pe O (by repeat' (first | constructor | omega)) (as_new O (by repeat' (first | constructor | omega)) (by repeat' constructor) (by repeat' constructor) rfl (by kernel_rfl) ?_ (Nat.le_of_ble_eq_true rfl)))
  refine ex_assign (ev_pe O (by repeat' (first | constructor | omega)) (as_new O (by repeat' (first | constructor | omega)) (by repeat' constructor) (by repeat' constructor) rfl (by kernel_rfl) ?_ (Nat.le_of_ble_eq_true rfl)))
  refine ex_assign (ev_call O rfl rfl rfl rfl (args_ev (ev_list (args_nilE ⟨(Nat.le_of_ble_eq_true rfl), fun l => args_pe O (by repeat' (first | constructor | omega)) (call_new (ex := [.list l []]) O rfl (by decide) (by repeat' constructor) (fun a => gap_init) ?_)⟩))))
  rintro G _ _ ⟨c, rfl, rfl⟩
  refine ⟨rfl, as_new O (by repeat' (first | constructor | omega)) (by repeat' constructor) (by repeat' constructor) rfl (by kernel_rfl) ?_ (Nat.le_of_ble_eq_true rfl)⟩
  refine ex_assign (ev_call O rfl rfl rfl rfl (args_nilE (call_new (ex := []) O rfl (by decide) .nil (fun a => marks_init) ?_)))
  rintro M _ _ ⟨R, rfl, rfl⟩
  refine ⟨rfl, as_new O (by repeat' (first | constructor | omega)) (by repeat' constructor) (by repeat' constructor) rfl (by kernel_rfl) ?_ (Nat.le_of_ble_eq_true rfl)⟩
  refine ex_assign (ev_pe O (by repeat' (first | constructor | omega)) (as_new O (by repeat' (first | constructor | omega)) (by repeat' constructor) (by repeat' constructor) rfl (by kernel_rfl) ?_ (Nat.le_of_ble_eq_true rfl)))
  refine ex_assign (ev_pe O (by repeat' (first | constructor | omega)) (as_new O (by repeat' (first | constructor | omega)) (by repeat' constructor) (by repeat' constructor) rfl (by kernel_rfl) ?_ (Nat.le_of_ble_eq_true rfl)))
  refine ex_assign (ev_pe O (by repeat' (first | constructor | omega)) (as_new O (by repeat' (first | constructor | omega)) (by repeat' constructor) (by repeat' constructor) rfl (by kernel_rfl) ?_ (Nat.le_of_ble_eq_true rfl)))
  refine ex_assign (ev_pe O (by repeat' (first | constructor | omega)) (as_new O (by repeat' (first | constructor | omega)) (by repeat' constructor) (by repeat' constructor) rfl (by kernel_rfl) ?_ (Nat.le_of_ble_eq_true rfl)))
  refine ex_assign (ev_pe O (by repeat' (first | constructor | omega)) (as_new O (by repeat' (first | constructor | omega)) (by repeat' constructor) (by repeat' constructor) rfl (by kernel_rfl) ?_ (Nat.le_of_ble_eq_true rfl)))
  refine ex_assign (ev_pe O (by repeat' (first | constructor | omega)) (as_new O (by repeat' (first | constructor | omega)) (by repeat' constructor) (by repeat' constructor) rfl (by kernel_rfl) ?_ (Nat.le_of_ble_eq_true rfl)))
  refine ex_assign (ev_num (ev_pe O (by repeat' (first | constructor | omega)) ⟨1, rfl, as_new O (by repeat' (first | constructor | omega)) (by repeat' constructor) (by repeat' constructor) rfl (by kernel_rfl) ?_ (Nat.le_of_ble_eq_true rfl)⟩))
  refine ex_assign (ev_num (ev_pe O (by repeat' (first | constructor | omega)) ⟨1, rfl, as_new O (by repeat' (first | constructor | omega)) (by repeat' constructor) (by repeat' constructor) rfl (by kernel_rfl) ?_ (Nat.le_of_ble_eq_true rfl)⟩))
  refine ex_assign (ev_num (ev_pe O (by repeat' (first | constructor | omega)) ⟨1, rfl, as_new O (by repeat' (first | constructor | omega)) (by repeat' constructor) (by repeat' constructor) rfl (by kernel_rfl) ?_ (Nat.le_of_ble_eq_true rfl)⟩))
  refine ex_assign (ev_list (args_nilE ⟨(Nat.le_of_ble_eq_true rfl), fun LI => as_new O (by repeat' (first | constructor | omega)) (by repeat' constructor) (by repeat' constructor) rfl (by kernel_rfl) ?_ (Nat.le_of_ble_eq_true rfl)⟩))
  refine ex_assign (ev_pe O (by repeat' (first | constructor | omega)) (as_new O (by repeat' (first | constructor | omega)) (by repeat' constructor) (by repeat' constructor) rfl (by kernel_rfl) ?_ (Nat.le_of_ble_eq_true rfl)))
  refine ex_assign (ev_pe O (by repeat' (first | constructor | omega)) (as_new O (by repeat' (first | constructor | omega)) (by repeat' constructor) (by repeat' constructor) rfl (by kernel_rfl) ?_ (Nat.le_of_ble_eq_true rfl)))
  refine ex_assign (ev_pe O (by repeat' (first | constructor | omega)) (as_new O (by repeat' (first | constructor | omega)) (by repeat' constructor) (by repeat' constructor) rfl (by kernel_rfl) ?_ (Nat.le_of_ble_eq_true rfl)))
  refine ex_assign (ev_pe O (by repeat' (first | constructor | omega)) (as_new O (by repeat' (first | constructor | omega)) (by repeat' constructor) (by repeat' constructor) rfl (by kernel_rfl) ?_ (Nat.le_of_ble_eq_true rfl)))
  refine ex_assign (ev_pe O (by repeat' (first | constructor | omega)) (as_new O (by repeat' (first | constructor | omega)) (by repeat' constructor) (by repeat' constructor) rfl (by kernel_rfl) ?_ (Nat.le_of_ble_eq_true rfl)))
  exact ex_assign (ev_pe O (by repeat' (first | constructor | omega)) (as_new O (by repeat' (first | constructor | omega)) (by repeat' constructor) (by repeat' constructor) rfl (by kernel_rfl) (ex_nil (hK (by repeat' constructor) ⟨G, M, LI, R, c, rfl, rfl⟩)) (Nat.le_of_ble_eq_true rfl)))
end
/-- a tree that sets no object's dict -/
def DSafe {α : Type} : Sem α → Prop
  | .pure _ => True
  | .raise _ => True
  | .unsupported _ => True
  | .finish _ => True
  | .rule _ k => DSafe (k ())
  | .at _ k => DSafe (k ())
  | .load _ _ k => ∀ o, DSafe (k o)
  | .update _ _ f k => (∀ o : Obj, (f o).dict = o.dict) ∧ DSafe (k ())
  | .alloc _ k => ∀ a, DSafe (k a)
  | .loadIfAlive _ k => ∀ o, DSafe (k o)
  | .point _ k => DSafe (k ())
  | .register _ _ => True
  | .fresh k => ∀ t, DSafe (k t)
  | .ask k => ∀ t, DSafe (k t)
  | .choose _ _ k => ∀ t, DSafe (k t)
  | .os _ _ k => ∀ t, DSafe (k t)
  | .call _ _ _ _ _ => False
  | .handled _ k => ∀ t, DSafe (k t)
  | .newGen _ k => ∀ t, DSafe (k t)
  | .genState _ k => ∀ t, DSafe (k t)
  | .resume _ _ _ _ => False
  | .yield _ _ _ _ => True
  | .stack k => ∀ t, DSafe (k t)
  | .fork _ _ => True
  | .thread k => ∀ t, DSafe (k t)
  | .await _ _ _ _ _ => True
def DK (h h' : Heap) : Prop := ∀ (b : Nat) (o : Obj), h.objs[b]? = some o → ∃ o' : Obj, h'.objs[b]? = some o' ∧ o'.dict = o.dict
theorem DK.refl (h : Heap) : DK h h := fun _ o e => ⟨o, e, rfl⟩
theorem DK.trans {a b c : Heap} (x : DK a b) (y : DK b c) : DK a c := fun d o e => by
  obtain ⟨o', e', q⟩ := x d o e
  obtain ⟨o'', e'', q'⟩ := y d o' e'
  exact ⟨o'', e'', q'.trans q⟩
theorem DK.get {h h' : Heap} (x : DK h h') {b : Addr} {o o' : Obj} (e : h.get? b = some o) (e' : h'.get? b = some o') : o'.dict = o.dict := by
  obtain ⟨o₂, e₂, q⟩ := x b o (Heap.get?_some_iff.mp e).1
  have := (Heap.get?_some_iff.mp e').1
  rw [e₂] at this
  rw [← Option.some.inj this]
  exact q
theorem DK.push (h : Heap) (o : Obj) : DK h (h.push o) := fun b o' e => by
  refine ⟨o', ?_, rfl⟩
  have hlt : b < h.objs.size := (Array.getElem?_eq_some_iff.mp e).1
  cases h
  simp only [Heap.push, Array.getElem?_push]
  rw [if_neg (Nat.ne_of_lt hlt)]
  exact e
theorem DK.update (h : Heap) (a : Addr) (f : Obj → Obj) (hf : ∀ o : Obj, (f o).dict = o.dict) : DK h (h.update a f) := fun b o e => by
  cases h
  simp only [Heap.update, Array.getElem?_modify]
  by_cases q : a = b
  · rw [if_pos q]; simp only at e; rw [e]; exact ⟨_, rfl, hf o⟩
  · rw [if_neg q]; exact ⟨o, e, rfl⟩
theorem wp_dk {α : Type} {M : Model} {Γ : PySem.Ctx} {h₀ : Heap} {Q : α → Pos → Shared → Prop} {E : Value → Pos → Shared → Prop} (t : Sem α) :
    DSafe t → ∀ p s, DK h₀ s.heap → Sem.wp M Γ t Q E p s → Sem.wp M Γ t (fun a p' s' => Q a p' s' ∧ DK h₀ s'.heap) (fun a p' s' => E a p' s' ∧ DK h₀ s'.heap) p s := by
  induction t with
  | pure a => intro _ p s hd h; exact ⟨h, hd⟩
  | raise e => intro _ p s hd h; exact ⟨h, hd⟩
  | unsupported _ => intro _ p s hd h; exact h
  | finish _ => intro _ p s hd h; exact h
  | rule _ k ih => intro hs p s hd h; exact ih () hs _ _ hd h
  | «at» _ k ih => intro hs p s hd h; exact ih () hs _ _ hd h
  | load a _ k ih => intro hs p s hd h; obtain ⟨o, e, h⟩ := h; exact ⟨o, e, ih o (hs o) _ _ hd h⟩
  | update a _ f k ih => intro hs p s hd h; exact ⟨h.1, ih () hs.2 _ { s with heap := s.heap.update a f } (hd.trans (DK.update _ _ _ hs.1)) h.2⟩
  | alloc o k ih => intro hs p s hd h; exact ih _ (hs _) _ { s with heap := s.heap.push o } (hd.trans (DK.push _ _)) h
  | loadIfAlive _ k ih => intro hs p s hd h; exact ih _ (hs _) _ _ hd h
  | point _ k ih => intro hs p s hd h; exact ih () hs _ _ hd h
  | register _ _ _ => intro _ p s hd h; exact h
  | fresh k ih => intro hs p s hd h; exact ih _ (hs _) _ { s with toks := s.toks + 1 } hd h
  | ask k ih => intro hs p s hd h; exact ih _ (hs _) _ _ hd h
  | choose src n k ih => intro hs p s hd h; exact ⟨h.1, ih _ (hs _) _ { s with drawn := s.drawn.bump src } hd h.2⟩
  | os q _ k ih => intro hs p s hd h; exact ih _ (hs _) _ { s with os := (Os.step s.os q).1 } hd h
  | call _ _ _ _ _ _ => intro hs; exact hs.elim
  | handled _ k ih => intro hs p s hd h; exact ih _ (hs _) _ _ hd h
  | newGen c k ih => intro hs p s hd h; exact ih _ (hs _) _ { s with gens := s.gens.push (.fresh c) } hd h
  | genState g k ih => intro hs p s hd h; obtain ⟨st, e, h⟩ := h; exact ⟨st, e, ih _ (hs _) _ _ hd h⟩
  | resume _ _ _ _ _ => intro hs; exact hs.elim
  | yield _ _ _ _ _ => intro _ p s hd h; exact h
  | stack k ih => intro hs p s hd h; exact ih _ (hs _) _ _ hd h
  | fork _ _ _ => intro _ p s hd h; exact h
  | thread k ih => intro hs p s hd h; exact ih _ (hs _) _ _ hd h
  | await _ _ _ _ _ _ => intro _ p s hd h; exact h
theorem wpAny_dk {α : Type} {M : Model} {A : Around} {Q : α → Shared → Prop} {E : Value → Shared → Prop} {t : Sem α} {s : Shared} (hs : DSafe t) (h : wpAny M A t Q E s) :
    wpAny M A t (fun a s' => Q a s' ∧ DK s.heap s'.heap) (fun a s' => E a s' ∧ DK s.heap s'.heap) s := fun Γ p hΓ => wp_dk t hs p s (DK.refl _) (h Γ p hΓ)
theorem DSafe.bind {α β : Type} {t : Sem α} {f : α → Sem β} (h : DSafe t) (hf : ∀ a, DSafe (f a)) : DSafe (t >>= f) := by
  show DSafe (t.bind f)
  induction t with
  | pure a => exact hf a
  | raise _ => exact trivial
  | unsupported _ => exact trivial
  | finish _ => exact trivial
  | rule _ k ih => exact ih () h
  | «at» _ k ih => exact ih () h
  | load _ _ k ih => exact fun o => ih o (h o)
  | update _ _ _ k ih => exact ⟨h.1, ih () h.2⟩
  | alloc _ k ih => exact fun o => ih o (h o)
  | loadIfAlive _ k ih => exact fun o => ih o (h o)
  | point _ k ih => exact ih () h
  | register _ _ _ => exact trivial
  | fresh k ih => exact fun o => ih o (h o)
  | ask k ih => exact fun o => ih o (h o)
  | choose _ _ k ih => exact fun o => ih o (h o)
  | os _ _ k ih => exact fun o => ih o (h o)
  | call _ _ _ _ _ _ => exact h.elim
  | handled _ k ih => exact fun o => ih o (h o)
  | newGen _ k ih => exact fun o => ih o (h o)
  | genState _ k ih => exact fun o => ih o (h o)
  | resume _ _ _ _ _ => exact h.elim
  | yield _ _ _ _ _ => exact trivial
  | stack k ih => exact fun o => ih o (h o)
  | fork _ _ _ => exact trivial
  | thread k ih => exact fun o => ih o (h o)
  | await _ _ _ _ _ _ => exact trivial
theorem dict_mapFields (f : Array Value → Array Value) (o : Obj) : (o.mapFields f).dict = o.dict := by
  unfold Obj.mapFields; split <;> rfl
theorem ds_fieldsOf (v : Value) : DSafe (fieldsOf v) := by
  unfold fieldsOf
  split
  · refine DSafe.bind (t := load _) (fun o => ?_) fun o => ?_
    · exact trivial
    · split <;> exact trivial
  · exact trivial
theorem ds_field (v : Value) (i : Nat) : DSafe (field v i) := by
  unfold field
  refine DSafe.bind (ds_fieldsOf v) fun vs => ?_
  split <;> exact trivial
theorem ds_setField (v : Value) (i : Nat) (x : Value) : DSafe (setField v i x) := by
  unfold setField
  split
  · unfold updateField
    refine DSafe.bind (t := load _) (fun _ => trivial) fun o => ?_
    split
    · split
      · exact ⟨dict_mapFields _, trivial⟩
      · exact trivial
    · exact trivial
  · exact trivial
theorem ds_setFlight (e : Value) (fr : Option Addr) : DSafe (setFlight e fr) := by
  unfold setFlight
  refine DSafe.bind (ds_field _ _) fun tb => ?_
  split
  · exact ds_setField _ _ _
  · exact trivial
theorem ds_stack : DSafe stack := fun _ => trivial
theorem ds_readyFrames : ∀ l, DSafe (readyFrames l)
  | [] => trivial
  | env :: outer => by
    unfold readyFrames
    split
    · rename_i f hf
      refine DSafe.bind (t := load _) (fun _ => trivial) fun o => ?_
      split
      · exact trivial
      · refine DSafe.bind ?_ fun b => DSafe.bind ?_ fun v => ?_
        · unfold behindIsImport
          by_cases h1 : (env.scope.kind != .module || outer.isEmpty) = true
          · rw [if_pos h1]; exact trivial
          · rw [if_neg h1]
            by_cases h2 : (env.code == .none) = true
            · simp only [h2, if_true]; exact trivial
            · simp only [h2]; exact DSafe.bind (ds_field _ _) fun _ => trivial
        · cases outer with
          | nil =>
            unfold keptBack
            by_cases h1 : (env.scope.isGenerator || env.scope.isCoroutine) = true
            · rw [if_pos h1]; exact trivial
            · rw [if_neg h1]
              unfold underTheClaimsCaller
              exact DSafe.bind (DSafe.bind ds_stack fun _ => trivial) fun _ => trivial
          | cons _ _ => exact trivial
        · exact DSafe.bind (t := update _ _) ⟨fun _ => rfl, trivial⟩ fun _ => ds_readyFrames outer
    · exact trivial
theorem ds_frameOf (env : Env) : DSafe (PySem.frameOf env) := by
  unfold PySem.frameOf
  refine DSafe.bind (DSafe.bind ds_stack fun _ => trivial) fun l => ?_
  refine DSafe.bind ?_ fun o => ?_
  · unfold frameObject
    split
    · exact trivial
    · exact DSafe.bind (ds_readyFrames _) fun _ => trivial
  · split <;> exact trivial
theorem ds_noteFrame (e : Value) (env : Env) : DSafe (noteFrame e env) := by
  have tail : ∀ (f : Addr) (head : Value) (b : Bool), DSafe (do setField e 1 (← EntryCells.newEntry head (← PySem.frameOf env) .none (rawInt f) .none (← entryPlaceOf f b))) := fun f head b => by
    refine DSafe.bind (ds_frameOf _) fun fr => DSafe.bind ?_ fun pl => DSafe.bind ?_ fun en => ds_setField _ _ _
    · unfold entryPlaceOf
      refine DSafe.bind ds_stack fun acts => ?_
      split <;> exact trivial
    · unfold EntryCells.newEntry newFields newObj
      dsimp only
      generalize ([head, fr, Value.none, rawInt f, Value.none] ++ (if pl.isEmpty = true then List.replicate 6 Value.none else pl)).toArray = arr
      split
      · exact trivial
      · unfold newObjAsIs
        exact fun a => trivial
  unfold noteFrame
  cases env.frame with
  | none => exact trivial
  | some f =>
    refine DSafe.bind (ds_field _ _) fun head => ?_
    by_cases h1 : (head != .none) = true
    · simp only [h1, if_true]
      refine DSafe.bind (ds_field _ _) fun x => ?_
      split
      · exact trivial
      · exact DSafe.bind (ds_setField _ _ _) fun _ => tail f head true
    · simp only [h1]
      exact tail f head false
theorem ds_leaving (env : Env) (e : Value) : DSafe (leaving env e) := by
  unfold leaving
  exact DSafe.bind (ds_noteFrame _ _) fun _ => ds_setFlight _ _
/-- the class LispSignal, as it lies in the heap -/
def LispCls (h : Heap) : Prop := ∃ nm q N bs sn sub ab col dd k0 k1 k2 k3 k5 mN, h.get? 38 = some (excClassObj nm q 38 N bs [.type "Exception", .type "BaseException", .type "object"] true sn sub ab col dd k0 k1 k2 k3 k5 "Exception.__new__") ∧ h.Ns N mN ∧
  mN (Str.ofString "__init__") = some (.ref 35) ∧ mN (Str.ofString "__setattr__") = none ∧ mN (Str.ofString "symbol") = none ∧ mN (Str.ofString "data") = none ∧ mN (Str.ofString "__getattribute__") = none ∧ mN (Str.ofString "__getattr__") = none
theorem LispCls.keeps {h h' : Heap} (x : LispCls h) (k : ∀ b o, h.get? b = some o → h'.get? b = some o) : LispCls h' := by
  obtain ⟨nm, q, N, bs, sn, sub, ab, col, dd, k0, k1, k2, k3, k5, mN, a, ⟨o, es, ep, e, r⟩, c⟩ := x
  exact ⟨nm, q, N, bs, sn, sub, ab, col, dd, k0, k1, k2, k3, k5, mN, k _ _ a, ⟨o, es, ep, k _ _ e, r⟩, c⟩
theorem ns_some_of {K : Frag} {h : Heap} {N : Addr} {mg : Str → Option Value} {n : Str} {v : Value} (X : K.In h) (G : h.Ns N mg) (e : nsIn K N n = some (some v)) : mg n = some v := by
  obtain ⟨o, es, ep, ho, hd, _, hf⟩ := G
  unfold nsIn at e
  split at e
  · rename_i c d es' n' sl q
    have := X _ _ q
    rw [ho] at this
    cases this
    cases hd
    split at e
    · rename_i e₀ he
      rw [← hf]
      unfold nsFind findBy
      rw [← Array.find?_toList, he]
      exact Option.some.inj e
    · split at e <;> cases e
  · cases e
noncomputable def objAt (K : Frag) (a : Addr) : Obj := match K.lookup a with
  | some o => o
  | none => default
noncomputable def clsAt (K : Frag) (a : Addr) : ClassData := match (objAt K a).data with
  | .cls c => c
  | _ => default
noncomputable def slotAt (K : Frag) (a : Addr) (i : Nat) : Option Value := (objAt K a).slots.getD i none
theorem lisp_is (P : Params) : (Mine.hd.heap_39 P).lookup 38 = some (excClassObj (clsAt (Mine.hd.heap_39 P) 38).name (clsAt (Mine.hd.heap_39 P) 38).qualname 38 37 (clsAt (Mine.hd.heap_39 P) 38).bases [.type "Exception", .type "BaseException", .type "object"] true (clsAt (Mine.hd.heap_39 P) 38).slotNames (clsAt (Mine.hd.heap_39 P) 38).subclasses (clsAt (Mine.hd.heap_39 P) 38).abstract (clsAt (Mine.hd.heap_39 P) 38).collection (objAt (Mine.hd.heap_39 P) 38).dict
    (slotAt (Mine.hd.heap_39 P) 38 0) (slotAt (Mine.hd.heap_39 P) 38 1) (slotAt (Mine.hd.heap_39 P) 38 2) (slotAt (Mine.hd.heap_39 P) 38 3) (slotAt (Mine.hd.heap_39 P) 38 5) "Exception.__new__") := by kernel_rfl
theorem lispCls_of {w : World} {h : Heap} (X : (Mine.hd.heap_39 w.params).In h) : LispCls h := by
  have hC := X 38 _ (lisp_is w.params)
  have hok : nsOkIn (Mine.hd.heap_39 w.params) 37 = true := by kernel_rfl
  refine ⟨_, _, _, _, _, _, _, _, _, _, _, _, _, _, h.nsMap _, hC, .of_isNs (isNs_of_in X hok), ns_some_of X (.of_isNs (isNs_of_in X hok)) (show nsIn (Mine.hd.heap_39 w.params) 37 (Str.ofString "__init__") = some (some (.ref 35)) by kernel_rfl), ?_, ?_, ?_, ?_, ?_⟩
  · exact nsMap_none_of_in X hok (show nsIn (Mine.hd.heap_39 w.params) 37 (Str.ofString "__setattr__") = some none by kernel_rfl)
  · exact nsMap_none_of_in X hok (show nsIn (Mine.hd.heap_39 w.params) 37 (Str.ofString "symbol") = some none by kernel_rfl)
  · exact nsMap_none_of_in X hok (show nsIn (Mine.hd.heap_39 w.params) 37 (Str.ofString "data") = some none by kernel_rfl)
  · exact nsMap_none_of_in X hok (show nsIn (Mine.hd.heap_39 w.params) 37 (Str.ofString "__getattribute__") = some none by kernel_rfl)
  · exact nsMap_none_of_in X hok (show nsIn (Mine.hd.heap_39 w.params) 37 (Str.ofString "__getattr__") = some none by kernel_rfl)
open PySem.Builtin PySem.Builtin.ObjectAttr in
section
/-- an object that is a dict of names -/
def NsO (o : Obj) (m : Str → Option Value) : Prop := ∃ es ep, o.data = .dict es ep ∧ StrKeys es ∧ UniqKeys es ∧ ∀ name, nsFind es name = m name
theorem NsO.ns1 {o : Obj} {m : Str → Option Value} (x : NsO o m) {h : Heap} {a : Addr} (e : h.get? a = some o) : h.Ns1 a m := by
  obtain ⟨es, ep, r⟩ := x
  exact ⟨o, es, ep, e, r⟩
theorem NsO.of {h : Heap} {a : Addr} {m : Str → Option Value} (x : h.Ns1 a m) : ∃ o, h.get? a = some o ∧ NsO o m := by
  obtain ⟨o, es, ep, e, r⟩ := x
  exact ⟨o, e, es, ep, r⟩
theorem lk_symbol : typeLookup (.type "Exception") (Str.ofString "symbol") = pure none := by rw [typeLookup_type, builtinLookup_eq_fast]; kernel_rfl
theorem lk_data : typeLookup (.type "Exception") (Str.ofString "data") = pure none := by rw [typeLookup_type, builtinLookup_eq_fast]; kernel_rfl
variable {prog : Program} {w : World} {A : Around} {E : Value → Shared → Prop} {h : Heap} {g : Array GenState} {d : Drawn} {t : Nat} {os : OsState}
variable {nm q : Str} {C N x : Addr} {bs bm : List Value} {sn : List Str} {sub : List Value} {ab : Bool} {col : Option Bool} {dd : Option Addr} {k0 k1 k2 k3 k5 : Option Value} {B newId sa owner : String} {mN : Str → Option Value} {name : Str} {v : Value}
theorem exc_entry0 {oe : Obj} {tk : Tok} {Q : Fin → Shared → Prop} (SF : StoreFacts B bm sa owner)
    (hC : h.get? C = some (excClassObj nm q C N bs bm true sn sub ab col dd k0 k1 k2 k3 k5 newId)) (hn : h.Ns N mN) (hna : mN name = none) (hB : typeLookup (.type B) name = pure none)
    (hx : h.get? x = some oe) (hc : oe.cls = .ref C) (hnc : ∀ c, oe.data ≠ .cls c) (hdn : oe.dict = none)
    (hq : ∀ h' od tk', h'.get? x = some { oe with dict := some h.objs.size } → h'.get? h.objs.size = some od → (NsO od fun y => if y = name then some v else none) → (∀ b o, b ≠ x → h.get? b = some o → h'.get? b = some o) → Q (.done (.ret .none)) ⟨h', g, d, tk', os⟩) :
    wpAny (model prog w) A (Builtin.«object.__setattr__» ⟨[.ref x, .str name tk, v], []⟩) Q E ⟨h, g, d, t, os⟩ := by
  have hpass := SF.passes (.ref x)
  unfold Builtin.«object.__setattr__»
  repeat (first | rw [refuse_eq] | (rw [refuseLoop_ref, hpass]) | (with_reducible refine wpAny_loadPart_at hx ?_; rw [hc]) | with_reducible refine wpAny_mroOf_exc hC ?_ | (with_reducible refine wpAny_typeLookup_exc hC hn SF.mro hB ?_; rw [hna]) | wp_step)
  rw [hdn, if_neg (by simp [typeHasDict])]
  split
  · rename_i hcd
    cases hcd
  split
  · rename_i c hcd
    exact absurd hcd (hnc c)
  have hx₁ : (h.push { cls := .type "dict", data := .dict #[] }).get? x = some oe := Heap.get?_push_of_some _ hx
  have hxs : x ≠ h.objs.size := Nat.ne_of_lt (Heap.lt_size hx)
  refine wpAny_bind (wpAny_alloc' ?_)
  refine wpAny_bind (wpAny_update' hx₁ ?_)
  refine wpAny_pure ?_
  generalize hh2 : ((h.push { cls := .type "dict", data := .dict #[] }).update x fun o => { cls := o.cls, dict := some h.objs.size, data := o.data, slots := o.slots }) = h₂
  have hgd : h₂.get? h.objs.size = some { cls := .type "dict", data := .dict #[] } := by
    rw [← hh2]; exact (Heap.get?_update_ne _ _ _ _ hxs.symm).trans (Heap.get?_push_at rfl rfl)
  have hgx : h₂.get? x = some { oe with dict := some h.objs.size } := by
    rw [← hh2]
    refine Heap.get?_update_self _ hx₁ ?_
    have hfr := (Heap.get?_some_iff.mp hx).2
    obtain ⟨oc, od, odt, osl⟩ := oe
    cases odt <;> first | rfl | exact hfr
  have hk2 : ∀ b o, b ≠ x → h.get? b = some o → h₂.get? b = some o := fun b o hb e => by
    rw [← hh2]; exact (Heap.get?_update_ne _ _ _ _ hb).trans (Heap.get?_push_of_some _ e)
  have hnd : h₂.Ns h.objs.size (fun _ => none) := ⟨_, #[], _, hgd, rfl, fun e he => absurd he (by simp), fun _ => rfl⟩
  show wpAny _ _ (storeInDict h.objs.size (.str name tk) name v) _ _ _
  unfold storeInDict newKeyGuard
  refine wpAny_bind (wpAny_pure (wpAny_bind (wpAny_nsSet1 (Heap.Ns1.of_empty hnd) fun h' hn' hs => ?_)))
  obtain ⟨oD, esD, epD, hoD, hdD, hcD⟩ := hn'.count (Within.cons name v Within.nil)
  refine wpAny_bind (wpAny_lookBehind hoD (by rw [hdD]; exact pastItsLine_dict (Nat.le_trans hcD (by rw [List.length_cons, List.length_nil, sizeLine_eq]; omega))) ?_)
  wp_walk
  obtain ⟨od, hod, hns⟩ := NsO.of hn'
  exact hq h' od _ ((hs.2 x hxs).trans hgx) hod hns fun b o hb e => (hs.2 b (Nat.ne_of_lt (Heap.lt_size e))).trans (hk2 b o hb e)
theorem exc_attr0 {oe : Obj} {Q : Unit → Shared → Prop} (SF : StoreFacts B bm sa owner)
    (hC : h.get? C = some (excClassObj nm q C N bs bm true sn sub ab col dd k0 k1 k2 k3 k5 newId)) (hn : h.Ns N mN) (hns : mN "__setattr__" = none) (hna : mN name = none) (hB : typeLookup (.type B) name = pure none)
    (hx : h.get? x = some oe) (hc : oe.cls = .ref C) (hnc : ∀ c, oe.data ≠ .cls c) (hdn : oe.dict = none)
    (hq : ∀ h' od tk', h'.get? x = some { oe with dict := some h.objs.size } → h'.get? h.objs.size = some od → (NsO od fun y => if y = name then some v else none) → (∀ b o, b ≠ x → h.get? b = some o → h'.get? b = some o) → Q () ⟨h', g, d, tk', os⟩) :
    wpAny (model prog w) A (setAttr (.ref x) name v) Q E ⟨h, g, d, t, os⟩ := by
  have f3 := SF.slot.bind (.ref x)
  unfold setAttr callSpecial? specialOf
  repeat (any_goals (first | assumption | (with_reducible refine wpAny_loadPart_at hx ?_; rw [hc]) | (with_reducible refine wpAny_typeLookup_exc hC hn SF.mro SF.slot.lookup ?_; rw [hns]) | wp_step))
  refine codeAny_call_builtin SF.slot.plain SF.entry (wpAny_check_sa SF hC hx hc (exc_entry0 SF hC hn hna hB hx hc hnc hdn fun h' od tk' e1 e2 e3 e4 => ?_))
  repeat (any_goals (first | assumption | wp_step))
  exact hq h' od tk' e1 e2 e3 e4
end
section
variable {prog : Program} {w : World} {A : Around} {E : Value → Shared → Prop} {s : Shared} {h₀ : Heap} {L e d : Addr} {m : Str → Option Value} {rest : List (Addr × Obj)} {oe od : Obj} {v : Value} {mA : Str → Option Value}
theorem lisp_attr0 {Q : Unit → Shared → Prop} (LC : LispCls h₀) (F : Fr h₀ L s.heap m) (N : News h₀ L s.heap ((e, oe) :: rest)) (hoff : ∀ p ∈ rest, p.1 ≠ e) (hc : oe.cls = .ref 38) (hnc : ∀ c, oe.data ≠ .cls c) (hdn : oe.dict = none)
    (hq : ∀ d od h' tk', Fr h₀ L h' m → News h₀ L h' ((e, { oe with dict := some d }) :: (d, od) :: rest) → (∀ q ∈ ((e, oe) :: rest : List (Addr × Obj)), q.1 < d) → (NsO od fun y => if y = Str.ofString "symbol" then some v else none) → Q () { s with heap := h', toks := tk' }) :
    wpAny (model prog w) A (setAttr (.ref e) (Str.ofString "symbol") v) Q E s := by
  obtain ⟨nm, q, N', bs, sn, sub, ab, col, dd, k0, k1, k2, k3, k5, mN, hC, hn, m1, m2, m3, m4, m5, m6⟩ := LC.keeps F.keep
  have he := N (e, oe) (.head _)
  obtain ⟨hp, g, dr, t, os⟩ := s
  have hLe : L ≠ e := Ne.symm he.2.1
  refine exc_attr0 PySem.F.store_Exception hC hn m2 m3 lk_symbol he.1 hc hnc hdn fun h' od tk' e1 e2 e3 e4 => ?_
  have hnew : ∀ b : Addr, h₀.get? b = none → True := fun _ _ => trivial
  have hge : h₀.objs.size ≤ hp.objs.size := Nat.le_trans F.above (Nat.le_of_lt F.ns.lt)
  refine hq hp.objs.size od h' tk' ⟨?_, fun b o hb => e4 b o (fun z => ?_) (F.keep b o hb), F.above⟩ ?_ ?_ e3
  · obtain ⟨oL, es, ep, hL, r⟩ := F.ns
    exact ⟨oL, es, ep, e4 L oL hLe hL, r⟩
  · rw [z] at hb; have h3 := he.2.2; simp only at h3; rw [h3] at hb; cases hb
  · intro p hp'
    rcases List.mem_cons.mp hp' with rfl | hp'
    · exact ⟨e1, he.2.1, he.2.2⟩
    · rcases List.mem_cons.mp hp' with rfl | hp'
      · exact ⟨e2, Nat.ne_of_gt F.ns.lt, Heap.get?_none_of_le hge⟩
      · have n := N p (.tail _ hp')
        exact ⟨e4 _ _ (hoff p hp') n.1, n.2⟩
  · exact fun p hp' => Heap.lt_size (N p hp').1
theorem lisp_attr1 {Q : Unit → Shared → Prop} (LC : LispCls h₀) (F : Fr h₀ L s.heap m) (N : News h₀ L s.heap ((e, oe) :: (d, od) :: rest)) (hoff : ∀ p ∈ rest, p.1 ≠ e) (hoff' : ∀ p ∈ rest, p.1 ≠ d) (hed : d ≠ e) (hc : oe.cls = .ref 38) (hnc : ∀ c, oe.data ≠ .cls c) (hdn : oe.dict = some d)
    (hns : NsO od fun y => if y = Str.ofString "symbol" then some v else none) {v2 : Value}
    (hq : ∀ od' h' tk', Fr h₀ L h' m → News h₀ L h' ((e, oe) :: (d, od') :: rest) → (NsO od' fun y => if y = Str.ofString "data" then some v2 else if y = Str.ofString "symbol" then some v else none) → Q () { s with heap := h', toks := tk' }) :
    wpAny (model prog w) A (setAttr (.ref e) (Str.ofString "data") v2) Q E s := by
  obtain ⟨nm, q, N', bs, sn, sub, ab, col, dd, k0, k1, k2, k3, k5, mN, hC, hn, m1, m2, m3, m4, m5, m6⟩ := LC.keeps F.keep
  have he := N (e, oe) (.head _)
  have hd := N (d, od) (.tail _ (.head _))
  obtain ⟨hp, g, dr, t, os⟩ := s
  refine store_attr (ns := [Str.ofString "symbol"]) PySem.F.store_Exception hC hn m2 m4 lk_data (fun z => ?_) (mA := fun y => if y = Str.ofString "symbol" then some v else none) ⟨oe, he.1, hc, hnc, .inr ⟨d, hdn, hed, hns.ns1 hd.1⟩⟩ (fun h' tk' I hk hs => ?_) ?_ ?_
  · have h1 := he.1
    simp only at h1
    rw [z, hC] at h1
    cases h1
    exact hnc _ rfl
  · obtain ⟨o₁, h1, c1, c2, c3, c4⟩ := hs oe he.1
    have eo : o₁ = oe := by
      obtain ⟨a, b, c, dd⟩ := o₁
      obtain ⟨a', b', c', dd'⟩ := oe
      simp only at c1 c2 c3 c4 hdn
      subst c1 c2 c3
      rw [hdn, c4 d hdn]
    subst eo
    have keep : ∀ b o, b ≠ e → b ≠ d → hp.get? b = some o → h'.get? b = some o := fun b o hb hb' hbo => hk b o hb (fun o₀ dx h0 hdx => by
      have := he.1
      simp only at this
      rw [this] at h0
      cases h0
      rw [hdn] at hdx
      cases hdx
      exact hb') hbo
    obtain ⟨o₂, e2, _, _, hcase⟩ := I
    rw [h1] at e2
    cases e2
    rcases hcase with ⟨hx, _⟩ | ⟨d', hd', _, hns'⟩
    · rw [hdn] at hx; cases hx
    · rw [hdn] at hd'
      cases hd'
      obtain ⟨od', hod', hN'⟩ := NsO.of hns'
      refine hq od' h' tk' ⟨?_, fun b o hb => keep b o (fun z => ?_) (fun z => ?_) (F.keep b o hb), F.above⟩ ?_ hN'
      · obtain ⟨oL, es, ep, hL, r⟩ := F.ns
        exact ⟨oL, es, ep, keep L oL (Ne.symm he.2.1) (Ne.symm hd.2.1) hL, r⟩
      · rw [z] at hb; have h3 := he.2.2; simp only at h3; rw [h3] at hb; cases hb
      · rw [z] at hb; have h3 := hd.2.2; simp only at h3; rw [h3] at hb; cases hb
      · intro p hp'
        rcases List.mem_cons.mp hp' with rfl | hp'
        · exact ⟨h1, he.2⟩
        · rcases List.mem_cons.mp hp' with rfl | hp'
          · exact ⟨hod', hd.2⟩
          · have n := N p (.tail _ (.tail _ hp'))
            exact ⟨keep _ _ (hoff p hp') (hoff' p hp') n.1, n.2⟩
  · exact Within.cons _ _ Within.nil
  · rw [sizeLine_eq]; decide
end
open PySem.Builtin PySem.Builtin.ObjectAttr in
section
variable {prog : Program} {w : World} {A : Around} {E : Value → Shared → Prop} {h : Heap} {g : Array GenState} {d : Drawn} {t : Nat} {os : OsState}
variable {nm q : Str} {C N x : Addr} {bs bm : List Value} {sn : List Str} {sub : List Value} {ab : Bool} {col : Option Bool} {dd : Option Addr} {k0 k1 k2 k3 k5 : Option Value} {B newId : String} {mN mA : Str → Option Value} {name : Str} {v : Value} {oe : Obj} {dx : Addr}
theorem exc_check {M : Model} {nameV : Value} {Q : Unit → Shared → Prop} (FB : ExcAttrBase B bm) (hC : h.get? C = some (excClassObj nm q C N bs bm true sn sub ab col dd k0 k1 k2 k3 k5 newId))
    (hx : h.get? x = some oe) (hc : oe.cls = .ref C) (hq : Q () ⟨h, g, d, t, os⟩) : wpAny M A (checkBuiltinCall "BaseException.__getattribute__" ⟨[.ref x, nameV], []⟩) Q E ⟨h, g, d, t, os⟩ := by
  have hk : builtinKind "BaseException.__getattribute__" = some .slot := by decide +kernel
  have hsplit : splitId "BaseException.__getattribute__" = some ("BaseException", "__getattribute__") := by decide +kernel
  have hcB : (Value.ref C :: bm).contains (.type "BaseException") = true := by rw [List.contains_cons, FB.hasBase]; rfl
  have ha := PySem.F.args_bexc_ga (.ref x) nameV
  simp only [checkBuiltinCall, hk, hsplit]
  refine wpAny_bind ?_
  · unfold isInstance
    repeat (first | (with_reducible refine wpAny_loadPart_at hx ?_; rw [hc]) | (with_reducible refine wpAny_isSubtype_exc hC ?_; rw [hcB]) | wp_step)
    exact hq
theorem exc_load_entry {tk : Tok} {Q : Fin → Shared → Prop} (FB : ExcAttrBase B bm) (hC : h.get? C = some (excClassObj nm q C N bs bm true sn sub ab col dd k0 k1 k2 k3 k5 newId)) (hn : h.Ns N mN) (hna : mN name = none)
    (hB : typeLookup (.type B) name = pure none) (hx : h.get? x = some oe) (hc : oe.cls = .ref C) (hnc : ∀ c, oe.data ≠ .cls c) (hdx : oe.dict = some dx) (hns : h.Ns1 dx mA) (hv : mA name = some v) (hq : Q (.done (.ret v)) ⟨h, g, d, t, os⟩) :
    wpAny (model prog w) A (Builtin.«object.__getattribute__» ⟨[.ref x, .str name tk], []⟩) Q E ⟨h, g, d, t, os⟩ := by
  unfold Builtin.«object.__getattribute__»
  repeat (first | (with_reducible refine wpAny_loadPart_at hx ?_; rw [hc]) | (with_reducible refine wpAny_typeLookup_exc hC hn FB.mro hB ?_; rw [hna]) | wp_step)
  split
  · rename_i c hcd
    exact absurd hcd (hnc c)
  unfold instanceDict
  repeat (first | (with_reducible refine wpAny_loadPart_at hx ?_; rw [hc]) | with_reducible refine wpAny_loadPart_at hC ?_ | wp_step)
  rw [hdx]
  repeat (first | (with_reducible refine wpAny_nsGet hns.ns ?_; rw [hv]) | wp_step)
  exact hq
theorem exc_load {expr : Bool} {Q : Value → Shared → Prop} (FB : ExcAttrBase B bm) (hC : h.get? C = some (excClassObj nm q C N bs bm true sn sub ab col dd k0 k1 k2 k3 k5 newId)) (hn : h.Ns N mN) (hna : mN name = none) (hg1 : mN "__getattribute__" = none) (hg2 : mN "__getattr__" = none)
    (hB : typeLookup (.type B) name = pure none) (hx : h.get? x = some oe) (hc : oe.cls = .ref C) (hnc : ∀ c, oe.data ≠ .cls c) (hdx : oe.dict = some dx) (hns : h.Ns1 dx mA) (hv : mA name = some v) (hh : handedOut v = pure v) (hq : Q v ⟨h, g, d, t + 1, os⟩) :
    wpAny (model prog w) A (getAttr (.ref x) name expr) Q E ⟨h, g, d, t, os⟩ := by
  have f3 := FB.ga.bind (.ref x)
  have hx0 : (expr && onTheHeap (Value.builtin "BaseException.__getattribute__")) = false := by cases expr <;> rfl
  have hx2 : (Value.builtin "BaseException.__getattribute__" == Value.builtin "object.__getattribute__") = false := by decide +kernel
  have hx1 : (onTheHeap (Value.ref C) && Value.builtin "BaseException.__getattribute__" == Value.builtin "object.__getattribute__") = false := by rw [hx2]; rfl
  unfold getAttr getAttrBy
  repeat (any_goals (first | assumption | (with_reducible refine wpAny_loadPart_at hx ?_; rw [hc]) | (with_reducible refine wpAny_typeLookup_exc hC hn FB.mro FB.ga.lookup ?_; rw [hg1]) | (with_reducible refine wpAny_typeLookup_exc hC hn FB.mro FB.noGetattr ?_; rw [hg2]) | wp_step))
  refine codeAny_call_builtin FB.ga.plain PySem.F.entry_bexc_ga (exc_check FB hC hx hc (exc_load_entry FB hC hn hna hB hx hc hnc hdx hns hv ?_))
  repeat (any_goals (first | assumption | wp_step))
end
section
variable {prog : Program} {w : World} {A : Around} {E : Value → Shared → Prop} {s : Shared} {h₀ : Heap} {L e d : Addr} {m : Str → Option Value} {news : List (Addr × Obj)} {oe od : Obj} {v : Value} {mA : Str → Option Value} {name : Str} {expr : Bool}
theorem lisp_load {Q : Value → Shared → Prop} (LC : LispCls h₀) (F : Fr h₀ L s.heap m) (N : News h₀ L s.heap news) (he : (e, oe) ∈ news) (hd : (d, od) ∈ news) (hc : oe.cls = .ref 38) (hnc : ∀ c, oe.data ≠ .cls c) (hdn : oe.dict = some d)
    (hns : NsO od mA) (hname : name = Str.ofString "symbol" ∨ name = Str.ofString "data") (hv : mA name = some v) (hh : handedOut v = pure v) (hq : Q v { s with toks := s.toks + 1 }) :
    wpAny (model prog w) A (getAttr (.ref e) name expr) Q E s := by
  obtain ⟨nm, q, N', bs, sn, sub, ab, col, dd, k0, k1, k2, k3, k5, mN, hC, hn, m1, m2, m3, m4, m5, m6⟩ := LC.keeps F.keep
  have hna : mN name = none := by rcases hname with rfl | rfl <;> assumption
  have hB : typeLookup (.type "Exception") name = pure none := by rcases hname with rfl | rfl <;> first | exact lk_symbol | exact lk_data
  obtain ⟨hp, g, dr, t, os⟩ := s
  exact exc_load PySem.F.attrBase_Exception hC hn hna m5 m6 hB (N _ he).1 hc hnc hdn (hns.ns1 (N _ hd).1) hv hh hq
end
def RaiseQ (E : Value → Shared → Prop) (v : Value) (s₁ : Shared) : Prop := ∃ e oe, v = .ref e ∧ LispCls s₁.heap ∧ s₁.heap.get? e = some oe ∧ oe.cls = .ref 38 ∧ (∃ t b, oe.data = .fields #[.ref t, .none, .none, .none, b, .none]) ∧ E (.ref e) s₁
section
variable {prog : Program} {w : World} {A : Around} {E : Value → Shared → Prop} {s : Shared} {env : Env}
theorem lisp_raise {x : Expr} {pos : Pos} {Q : Flow → Shared → Prop} (hh : A.handled = none)
    (h : wpAny (model prog w) A (eval x env) (RaiseQ E) E s) :
    wpAny (model prog w) A (exec (.Raise (some x) none pos) env) Q E s := by
  rw [arm_exec_Raise]
  refine wpAny_bind (wpAny_standAt ?_)
  unfold raiseStmt
  simp only [evalOpt, Option.map]
  refine wpAny_bind (wpAny_bind (wpAny_mono h (fun v s₁ h₁ => ?_) fun _ _ y => y))
  obtain ⟨e, oe, rfl, ⟨nm, q, N', bs, sn, sub, ab, col, dd, k0, k1, k2, k3, k5, mN, hC, hn, m1, m2, m3, m4, m5, m6⟩, he, hc, ⟨t, b, hd⟩, hE⟩ := h₁
  obtain ⟨hp, g, dr, tk, os⟩ := s₁
  have hcB : (Value.ref 38 :: [Value.type "Exception", .type "BaseException", .type "object"]).contains (.type "BaseException") = true := by decide
  refine wpAny_bind (wpAny_standAt ?_)
  repeat (first | (with_reducible refine wpAny_loadPart_at he ?_; rw [hc]) | with_reducible refine wpAny_loadPart_at he ?_ | with_reducible refine wpAny_loadPart_at hC ?_ | (with_reducible refine wpAny_isSubtype_exc hC ?_; rw [hcB]) | wp_step)
  rw [hd]
  repeat wp_step
  exact wpAny_raiseNew_none hh hE
end
theorem RaiseQ.mk {E : Value → Shared → Prop} {h₀ : Heap} {L e d t : Addr} {m : Str → Option Value} {rest : List (Addr × Obj)} {s : Shared} (LC : LispCls h₀) (F : Fr h₀ L s.heap m) (N : News h₀ L s.heap ((e, ({ cls := .ref 38, dict := some d, data := .fields #[.ref t, .none, .none, .none, .bool false, .none] } : Obj)) :: rest)) (k : E (.ref e) s) : RaiseQ E (.ref e) s :=
  ⟨e, _, rfl, LC.keeps F.keep, (N _ (.head _)).1, rfl, ⟨t, _, rfl⟩, k⟩
def RaisedD (base : Heap) (l : List Env) (e d : Addr) (news : List (Addr × Obj)) (h : Heap) : Prop :=
  ∃ B a0, base.StaysIn B ∧ (∀ q ∈ news, B.get? q.1 = some q.2 ∧ base.get? q.1 = none) ∧ Heap.FlyingW B l e (.ref 38) a0 h ∧ ∃ oe, h.get? e = some oe ∧ oe.dict = some d
section
variable {M : Model} {A : Around} {E : Value → Shared → Prop} {s' : Shared} {base g g₂ : Heap} {outer : List Env} {env : Env} {L e d : Addr} {m : Str → Option Value} {Q : Unit → Shared → Prop} {news : List (Addr × Obj)} {oe : Obj}
theorem leave_D1 {vs : Array Value} {a0 : Value} (K : Below A base outer g) (F : Fr g L s'.heap m) (N : News g L s'.heap ((e, oe) :: news)) (hoff : ∀ p ∈ news, p.1 ≠ e) (hc : oe.cls = .ref 38) (hd : oe.data = .fields vs) (h1 : vs[1]? = some .none) (h0 : vs[0]? = some a0) (hdn : oe.dict = some d)
    (hf : env.frame = some L) (hke : env.scope.kind = .function)
    (hQ : ∀ h', RaisedD base outer e d news h' → g.UpToSlots h' → Q () { s' with heap := h' }) :
    wpAny M (A.deeper env) (leaving env (.ref e)) Q E s' := by
  have K' := pushX K F hf hke
  have he := N (e, oe) (.head _)
  have hin : ∀ en ∈ (env :: outer), ∀ b, en.frame = some b → b ∈ e :: (env :: outer).filterMap (·.frame) := fun en hen b hb => .tail _ (List.mem_filterMap.mpr ⟨en, hen, hb⟩)
  have hbe : base.get? e = none := fresh_of_stays K.stays he.2.2
  have st : base.StaysIn (hideAll s'.heap (e :: (env :: outer).filterMap (·.frame))) := fun b o q => hideAll_get _ (K'.stays b o q) fun hm => by
    rcases List.mem_cons.mp hm with rfl | hm
    · rw [hbe] at q; cases q
    · rw [(K'.frames.mem hm).1] at q; cases q
  have hl : ∀ q ∈ news, (hideAll s'.heap (e :: (env :: outer).filterMap (·.frame))).get? q.1 = some q.2 ∧ base.get? q.1 = none := fun q hq => by
    have n := N q (.tail _ hq)
    refine ⟨hideAll_get _ n.1 fun hm => ?_, fresh_of_stays K.stays n.2.2⟩
    rcases List.mem_cons.mp hm with h | hm
    · exact hoff q hq h
    · obtain ⟨en, hen, hfr⟩ := List.mem_filterMap.mp hm
      rcases List.mem_cons.mp hen with rfl | hen
      · rw [hf] at hfr; exact n.2.1 (Option.some.inj hfr).symm
      · obtain ⟨o, ho, _⟩ := (K.frames.mem (List.mem_filterMap.mpr ⟨en, hen, hfr⟩)).2
        rw [n.2.2] at ho; cases ho
  refine wpAny_mono (wpAny_dk (ds_leaving _ _) (wpAny_leaving_firstW (base := hideAll s'.heap (e :: (env :: outer).filterMap (·.frame))) (Q := fun _ s'' => ∃ h', s'' = { s' with heap := h' } ∧ Heap.LeftW (hideAll s'.heap (e :: (env :: outer).filterMap (·.frame))) (env :: outer) e oe.cls a0 s'.heap h') K'.stack (funFrames_hide K'.frames hin) hf he.1 (fun b o q => of_hideAll _ q) (hideAll_none _ (.head _)) hd h1 h0 fun h' hL => ⟨h', rfl, hL⟩)) (fun _ s'' x => ?_) fun _ _ x => x.1
  obtain ⟨⟨h', rfl, k1, ⟨_, _, k2⟩, k3, k4⟩, dk⟩ := x
  obtain ⟨oe', _, _, _, _, hoe', _⟩ := id k3
  exact hQ h' ⟨_, a0, st, hl, ⟨k1, hideAll_none _ (.head _), k2, by rw [← hc]; exact k3⟩, oe', hoe', (dk.get he.1 hoe').trans hdn⟩ ((Heap.UpToSlots.of_keeps F.keep).trans k4)
theorem leave_D2 (K : Below A base outer g) (F : Fr g L g₂ m) (R : RaisedD base (env :: outer) e d news s'.heap) (hsm : g₂.UpToSlots s'.heap) (hf : env.frame = some L)
    (hQ : ∀ h', RaisedD base outer e d news h' → g.UpToSlots h' → Q () { s' with heap := h' }) :
    wpAny M (A.deeper env) (leaving env (.ref e)) Q E s' := by
  obtain ⟨B, a0, hB, hl, hfl, oe, hoe, hdn⟩ := R
  refine wpAny_mono (wpAny_dk (ds_leaving _ _) (wpAny_leaves_onW (Q := fun _ s'' => ∃ h', s'' = { s' with heap := h' } ∧ Heap.FlyingW B outer e (.ref 38) a0 h' ∧ s'.heap.UpToSlots h') (Around.frames_deeper K.stack) hf hfl fun h' x1 x2 => ⟨h', rfl, x1, x2⟩)) (fun _ s'' x => ?_) fun _ _ x => x.1
  obtain ⟨⟨h', rfl, x1, x2⟩, dk⟩ := x
  obtain ⟨oe', hoe', _⟩ := x1.there
  exact hQ h' ⟨B, a0, hB, hl, x1, oe', hoe', (dk.get hoe hoe').trans hdn⟩ ((Heap.UpToSlots.of_keeps F.keep).trans (hsm.trans x2))
end
section
variable {prog : Program} {w : World} {A A₀ : Around} {s : Shared} {K : Frag} {L : Addr} {h₀ base : Heap} {m mg mb : Str → Option Value} {news : List (Addr × Obj)} {p : Program} {loose : List Str} {mean : ExcName → Option Value}
theorem code_raw {env : Env} {outer : List Env} {R : Result → Shared → Prop} {name qual : Str} {params : Arguments} {body : List Stmt} {scope : Scope} {dV kV doc pm cdv ct oc : Value} {an od : Option Addr} {osl : Array (Option Value)} {f : Addr} {args : Args} {binds : List (Str × Value)}
    (B : Below A₀ base outer h₀) (F : Fr h₀ L s.heap m) (X₀ : K.In h₀) (N : News h₀ L s.heap news) (T : Top p loose mean mg mb h₀) (hA : A.frames = some (env :: outer)) (hf : env.frame = some L) (hke : env.scope.kind = .function)
    (ho : K.lookup f = some ⟨oc, od, .func (fnOf name qual params body scope dV kV doc pm an cdv ct), osl⟩) (hcd : codeIn K cdv qual = true) (hroom : A.depth < recursionLimit)
    (hbind : BindsTo s (fnOf name qual params body scope dV kV doc pm an cdv ct) args binds) (hloc : ∀ y ∈ binds, scope.names.lookup y.1 = some .local)
    (h : ∀ g h₁, Fr h₀ L g m → Fr g s.heap.objs.size h₁ (fun y => binds.reverse.lookup y) → News g s.heap.objs.size h₁ news → Below A base (env :: outer) g → K.In g → Top p loose mean mg mb g →
      wpAny (model prog w) (A.deeper (envOf qual scope s.heap.objs.size f cdv)) (execs body (envOf qual scope s.heap.objs.size f cdv))
        (fun fl s' => R (.ok (.ret (match fl with | .ret v => v | _ => .none))) s')
        (fun e s' => wpAny (model prog w) (A.deeper (envOf qual scope s.heap.objs.size f cdv)) (leaving (envOf qual scope s.heap.objs.size f cdv) e) (fun _ s'' => R (.error e) s'') (fun e' s'' => R (.error e') s'') s')
        { s with heap := h₁, toks := s.toks + binds.length })
    (hcell : ∀ x ∈ scope.names, x.2 ≠ .cell) (hco : scope.isCoroutine = false) (hgen : scope.isGenerator = false) (hk : scope.kind = .function) : codeAny (model prog w) A (.call (.ref f) args) R s := by
  have X := X₀.keeps F.keep
  obtain ⟨FG, BG, st, _⟩ := groundX (R := R) B F N hA hf hke
  refine codeAny_call_def (fd := fnOf name qual params body scope dV kV doc pm an cdv ct) (body := body) (binds := binds) hroom (X _ _ ho) rfl (T.nolimit.keeps F.keep) (codeRec_of X hcd) rfl hbind hcell hloc (fun h₁ hns hk₁ => ?_) hco hgen hk
  exact h _ h₁ FG ⟨hns, fun b o e => hk₁ b o (of_hideAll _ e), Nat.le_of_eq (hideAll_size _ _)⟩
    (fun p hp => ⟨hk₁ _ _ (N p hp).1, Nat.ne_of_lt (Heap.lt_size (N p hp).1), hideAll_none _ (List.mem_map_of_mem hp)⟩) BG (X₀.keeps st) (T.keeps st)
end
section
variable {prog : Program} {w : World} {A : Around} {E : Value → Shared → Prop} {s' : Shared} {h₀ g gg : Heap} {outer : List Env} {L LL a e d : Addr} {m mm : Str → Option Value} {name : Str} {scope : Scope} {cd : Value}
  {n : Str} {b₀ : Stmt} {suite : List Stmt} {pos np : Pos} {rest : List ExceptHandler} {Q : Flow → Shared → Prop} {news : List (Addr × Obj)}
  {p : Program} {loose : List Str} {mg mb : Str → Option Value} {x : Str}
theorem caught_D (K : Below A h₀ outer g) (F : Fr g L gg m) (hab : h₀.objs.size ≤ L) (hsm : gg.UpToSlots s'.heap) (R : RaisedD h₀ (envOf name scope L a cd :: outer) e d news s'.heap)
    (X : (Mine.hd.heap_39 w.params).In h₀) (T : TopRead p loose mg mb h₀) (ex : nsIn (Mine.hd.heap_39 w.params) mainGlobals x = some (some (.ref 38)))
    (hLL : @Ne Nat LL L) (hLn : h₀.get? LL = none) (hLg : g.Ns LL mm)
    (k : ∀ h' tk oe oL, Fr h₀ L h' (fun y => if y = n then some (.ref e) else m y) → News h₀ L h' ((LL, oL) :: (e, oe) :: news) → (∃ es ep, oL.data = .dict es ep ∧ StrKeys es ∧ ∀ nm, nsFind es nm = mm nm) → oe.cls = .ref 38 → (∀ c, oe.data ≠ .cls c) → oe.dict = some d →
      wpAny (model prog w) ((A.deeper (envOf name scope L a cd)).mark (some (.ref e))) (execs (b₀ :: suite) (envOf name scope L a cd))
        (fun f s₄ => wpAny (model prog w) (A.deeper (envOf name scope L a cd)) (do bindName (envOf name scope L a cd) n .none; unbindBehindTheSuite (envOf name scope L a cd) n pos) (fun _ s₅ => Q f s₅) E s₄)
        (AsSuiteRaised (model prog w) ((A.deeper (envOf name scope L a cd)).mark (some (.ref e))) (envOf name scope L a cd) n pos (notedBy (model prog w) ((A.deeper (envOf name scope L a cd)).mark (some (.ref e))) (envOf name scope L a cd) (cameBackBy (model prog w) (A.deeper (envOf name scope L a cd)) (envOf name scope L a cd) E)))
        { s' with heap := h', toks := tk })
    (hk : scope.kind = .function := by rfl) (hlo : (envOf name scope L a cd).kindOf n = some .local := by rfl) (hx : (envOf name scope L a cd).kindOf x = some .globalImplicit := by rfl) (hd : (x == ("__debug__" : Str)) = false := by decide) :
    wpAny (model prog w) (A.deeper (envOf name scope L a cd)) (noteFrame (.ref e) (envOf name scope L a cd))
      (fun _ s₂ => wpAny (model prog w) (A.deeper (envOf name scope L a cd)) (setFlight (.ref e) none) (fun _ s₃ =>
        wpAny (model prog w) (A.deeper (envOf name scope L a cd)) (handleBy (.ref e) (envOf name scope L a cd) (.ExceptHandler (some (.Name x np)) (some n) (b₀ :: suite) pos :: rest)) Q E s₃) E s₂) E s' := by
  obtain ⟨B, a0, hB, hl, hfl, oe0, hoe0, hdn⟩ := R
  have hL : B.get? L = none := by
    obtain ⟨_, ⟨L', _, hf, hn', _⟩, _⟩ := hfl.2.2.1
    obtain rfl : L = L' := Option.some.inj hf
    exact hn'
  refine wpAny_mono (wpAny_dk (ds_noteFrame _ _) (wpAny_looks_onW (Q := fun _ s'' => ∃ h', s'' = { s' with heap := h' } ∧ Heap.HeldW B (envOf name scope L a cd :: outer) e (.ref 38) a0 L h' ∧ s'.heap.UpToSlots h') (Around.frames_deeper K.stack) rfl hfl fun h' x1 x2 => ⟨h', rfl, x1, x2⟩)) (fun _ s₂ x => ?_) fun _ _ x => x.1
  obtain ⟨⟨h₄, rfl, hheld₄, hsm₄⟩, dk₄⟩ := x
  refine wpAny_mono (wpAny_dk (ds_setFlight _ _) (wpAny_landsW (Q := fun _ s'' => ∃ h', s'' = { s' with heap := h' } ∧ Heap.FlyingW B (envOf name scope L a cd :: outer) e (.ref 38) a0 h' ∧ h₄.UpToSlots h') hheld₄ fun h' x1 x2 => ⟨h', rfl, x1, x2⟩)) (fun _ s₃ x => ?_) fun _ _ x => x.1
  obtain ⟨⟨h₅, rfl, hfl₅, hsm₅⟩, dk₅⟩ := x
  have up₅ : gg.UpToSlots h₅ := (hsm.trans hsm₄).trans hsm₅
  have F₅ : Fr h₀ L h₅ m := ⟨up₅.ns F.ns, fun b o e => hfl₅.1 b o (hB b o e), hab⟩
  obtain ⟨ob, hob, hobc⟩ := hfl₅.there
  refine wpAny_handleBy_cons (codeAny_handlers_test (name_K F₅ X T ex ?_ hk hx hd)) (by intro q; cases q)
  obtain ⟨nm, q, N', bs, sn, sub, ab, col, dd, k0, k1, k2, k3, k5, mN, hC, hn, _⟩ := (lispCls_of X).keeps F₅.keep
  refine wpAny_excMatches_sub_self hC hob hobc (by decide) (codeAny_handlers_suite_as ?_)
  refine wpAny_mono (wpAny_dk (ds_setFlight _ _) (lands_againW (Q := fun _ s'' => ∃ h', s'' = { s' with heap := h' } ∧ Heap.FlyingW B (envOf name scope L a cd :: outer) e (.ref 38) a0 h' ∧ h₅.UpToSlots h') hfl₅ fun h' x1 x2 => ⟨h', rfl, x1, x2⟩)) (fun _ s₆ x => ?_) fun _ _ x => x.1
  obtain ⟨⟨h₆, rfl, hfl₆, hsm₆⟩, dk₆⟩ := x
  have up₆ : gg.UpToSlots h₆ := up₅.trans hsm₆
  have F₆ : Fr h₀ L h₆ m := ⟨up₆.ns F.ns, fun b o e => hfl₆.1 b o (hB b o e), hab⟩
  obtain ⟨oe, ws, hoe, hoec, hoed, _⟩ := hfl₆.first
  have hbe : h₀.get? e = none := (flyingW_base hB hfl₆).2.1
  have hdict : oe.dict = some d := by
    have := ((dk₄.trans dk₅).trans dk₆).get hoe0 hoe
    exact this.trans hdn
  obtain ⟨oL, es, ep, hoL, hoLd, hoLk, hoLf⟩ := hLg
  obtain ⟨sl, hoL₆⟩ := up₆ LL oL (F.keep _ _ hoL) fun vs q => by rw [hoLd] at q; cases q
  have N₆ : News h₀ L h₆ ((LL, { oL with slots := sl }) :: (e, oe) :: news) := fun q hq => by
    rcases List.mem_cons.mp hq with rfl | hq
    · exact ⟨hoL₆, hLL, hLn⟩
    · rcases List.mem_cons.mp hq with rfl | hq
      · refine ⟨hoe, fun z => ?_, hbe⟩
        obtain ⟨o2, es2, ep2, ho2, hd2, _⟩ := F₆.ns
        have z' : e = L := z
        rw [z', ho2] at hoe
        cases hoe
        rw [hd2] at hoed
        cases hoed
      · refine ⟨hfl₆.1 _ _ (hl q hq).1, fun z => ?_, (hl q hq).2⟩
        have := (hl q hq).1
        rw [z, hL] at this; cases this
  refine stN F₆ N₆ (fun h₇ F₇ N₇ => ?_) hk hlo
  exact k h₇ _ oe _ F₇ N₇ ⟨es, ep, hoLd, hoLk, hoLf⟩ hoec (fun c q => by rw [hoed] at q; cases q) hdict
end
abbrev excO (t : Addr) : Obj := { cls := .ref 38, data := .fields #[.ref t, .none, .none, .none, .bool false, .none] }
abbrev excD (t d : Addr) : Obj := { cls := .ref 38, dict := some d, data := .fields #[.ref t, .none, .none, .none, .bool false, .none] }
section
variable {Z : Wd} {n : Fn} {f : Frm} {σ : St} {k j : Nat} {e o : Expr} {x : Str} {p pos : Pos} {rest : List Stmt} {v : SV} {vs : List SV} {args : List Expr} {led : List SE}
/-- the attributes of our exception -/
theorem as_lisp0 {a t : Addr} {m : List (Str × SV)} {r : List SE} {K : St → Prop} (O : Ok Z n f k) (ho : PE n ⟨m, .raw a (excO t) :: r⟩ o (.ref a))
    (hK : ∀ d od v', v.is v' → (NsO od fun y => if y = Str.ofString "symbol" then some v' else none) → K ⟨m, .raw a (excD t d) :: .raw d od :: r⟩) : AsOk Z n f ⟨m, .raw a (excO t) :: r⟩ (.Attribute o (Str.ofString "symbol") p) v K := by
  refine fun v' hv R E hR s hs => kas_attr (ho.sound O (fun o' s1 hao hs1 => ?_) hs)
  cases hao
  obtain ⟨h, tk, m', _, rfl, F, lm, N, ⟨_, c2, rfl, rfl, X⟩, nd⟩ := hs1
  refine lisp_attr0 (lispCls_of O.X) F N (upd_of (pre := []) nd).2 rfl (fun _ h => by cases h) rfl fun d od h' tk' F' N' hl hns => ?_
  refine hR _ _ (hK d od v' hv hns) _ _ rfl ⟨h', tk', m', (a, excD t d) :: (d, od) :: c2, rfl, F', lm, N', ⟨[_], _, rfl, rfl, ⟨[_], _, rfl, rfl, X⟩⟩, ?_⟩
  have nd1 := List.nodup_cons.mp nd
  refine List.nodup_cons.mpr ⟨fun hm => ?_, List.nodup_cons.mpr ⟨fun hm => ?_, nd1.2⟩⟩
  · rcases List.mem_cons.mp hm with e | hm
    · exact Nat.ne_of_lt (hl (a, excO t) (.head _)) e
    · exact nd1.1 hm
  · obtain ⟨q, hq, e⟩ := List.mem_map.mp hm
    exact Nat.ne_of_lt (hl q (.tail _ hq)) e
theorem as_lisp1 {a t d : Addr} {od : Obj} {u' : Value} {m : List (Str × SV)} {r : List SE} {K : St → Prop} (O : Ok Z n f k) (ho : PE n ⟨m, .raw a (excD t d) :: .raw d od :: r⟩ o (.ref a)) (hns : NsO od fun y => if y = Str.ofString "symbol" then some u' else none)
    (hK : ∀ od v', v.is v' → (NsO od fun y => if y = Str.ofString "data" then some v' else if y = Str.ofString "symbol" then some u' else none) → K ⟨m, .raw a (excD t d) :: .raw d od :: r⟩) : AsOk Z n f ⟨m, .raw a (excD t d) :: .raw d od :: r⟩ (.Attribute o (Str.ofString "data") p) v K := by
  refine fun v' hv R E hR s hs => kas_attr (ho.sound O (fun o' s1 hao hs1 => ?_) hs)
  cases hao
  obtain ⟨h, tk, m', _, rfl, F, lm, N, ⟨_, _, rfl, rfl, ⟨_, c2, rfl, rfl, X⟩⟩, nd⟩ := hs1
  have nd1 := List.nodup_cons.mp nd
  refine lisp_attr1 (lispCls_of O.X) F N (fun q hq => (upd_of (pre := []) nd).2 q (.tail _ hq)) (upd_of (pre := [(a, excD t d)]) nd).2 (fun e => nd1.1 (e ▸ .head _)) rfl (fun _ h => by cases h) rfl hns fun od' h' tk' F' N' hns' => ?_
  exact hR _ _ (hK od' v' hv hns') _ _ rfl ⟨h', tk', m', (a, excD t d) :: (d, od') :: c2, rfl, F', lm, N', ⟨[_], _, rfl, rfl, ⟨[_], _, rfl, rfl, X⟩⟩, nd⟩
theorem lisp_init {a t : Addr} {u1 u2 : SV} : SpecC Z 1 35 [.ref a, u1, u2] [.raw a (excO t)] (fun r ex' => ∃ d od v1 v2, r = .none ∧ u1.is v1 ∧ u2.is v2 ∧ (NsO od fun y => if y = Str.ofString "data" then some v2 else if y = Str.ofString "symbol" then some v1 else none) ∧ ex' = [.raw a (excD t d), .raw d od]) := by
  refine SpecC.body rfl rfl rfl rfl (by decide) (fun _ _ _ => rfl) ?_
  intro f K O hK
  refine ex_assign (ev_pe O (by repeat' (first | constructor | omega)) (as_lisp0 O (by repeat' (first | constructor | omega)) fun d od v1 h1 hns => ?_))
  refine ex_assign (ev_pe O (by repeat' (first | constructor | omega)) (as_lisp1 O (by repeat' (first | constructor | omega)) hns fun od v2 h2 hns => ?_))
  exact ex_nil (hK (by repeat' constructor) ⟨d, od, v1, v2, rfl, h1, h2, hns, rfl⟩)
theorem call_lisp {u1 u2 : SV} {K : SV → St → Prop} (O : Ok Z n f k) (hk : 2 ≤ k) (hK : ∀ a d t od tup v1 v2, u1.is v1 → u2.is v2 → (NsO od fun y => if y = Str.ofString "data" then some v2 else if y = Str.ofString "symbol" then some v1 else none) → K (.ref a) ⟨σ.m, .raw a (excD t d) :: .raw d od :: .raw t tup :: σ.led⟩) : CallOk Z n f σ (.ref 38) [u1, u2] K := by
  rintro _ ⟨a1, _, rfl, hv1, ⟨a2, _, rfl, hv2, rfl⟩⟩ R E hR s ⟨h, tk, m, c, rfl, F, lm, N, X, nd⟩
  obtain ⟨nm, q, N', bs, sn, sub, ab, col, dd, k0, k1, k2, k3, k5, mN, hC, hn, m1, m2, m3, m4, m5, m6⟩ := (lispCls_of O.X).keeps F.keep
  obtain ⟨o35, h35l, h35d⟩ := fdOf_is (K := Z.K) (fa := 35) rfl
  have h35 := F.keep _ _ (O.X 35 _ h35l)
  have hc35 : o35.cls = .type "function" := by
    have e : (match (Mine.hd.heap_39 Z.w.params).lookup 35 with | some o => o.cls == .type "function" | none => false) = true := by kernel_rfl
    rw [show (Mine.hd.heap_39 Z.w.params).lookup 35 = some o35 from h35l] at e
    exact eq_of_beq e
  refine wpAny_call_exc_init (hrest := by rw [sizeLine_eq]; exact Nat.le_of_ble_eq_true rfl) PySem.F.excBase_Exception hC hn m1 h35 hc35 fun h' a hm => ?_
  obtain ⟨t, he, htn, ht⟩ := hm.there
  have hge : f.h₀.objs.size ≤ h.objs.size := Nat.le_trans F.above (Nat.le_of_lt F.ns.lt)
  have fr : ∀ b : Addr, h.get? b = none → f.h₀.get? b = none := fun b hb => by
    cases q : f.h₀.get? b with
    | none => rfl
    | some o => rw [F.keep b o q] at hb; cases hb
  have hLe : ∀ b : Addr, h.get? b = none → b ≠ f.L := fun b hb z => by
    obtain ⟨o, _, _, ho, _⟩ := F.ns
    rw [z, ho] at hb; cases hb
  have hno : ∀ b : Addr, h.get? b = none → b ∉ (c ++ f.own).map (·.1) := fun b hb hq => by
    obtain ⟨q, hq, z⟩ := List.mem_map.mp hq
    have z : q.1 = b := z
    rw [← z, (N q hq).1] at hb; cases hb
  have F' : Fr f.h₀ f.L h' m := ⟨let ⟨o, es, ep, ho, r⟩ := F.ns; ⟨o, es, ep, hm.keeps _ _ ho, r⟩, fun b o hb => hm.keeps _ _ (F.keep b o hb), F.above⟩
  have N' : News f.h₀ f.L h' (((a, excO t) :: (t, { cls := .type "tuple", data := .seq #[a1, a2] }) :: c) ++ f.own) := fun q hq => by
    rcases List.mem_cons.mp hq with rfl | hq
    · exact ⟨he, hLe _ hm.new, fr _ hm.new⟩
    · rcases List.mem_cons.mp hq with rfl | hq
      · exact ⟨ht, hLe _ htn, fr _ htn⟩
      · exact ⟨hm.keeps _ _ (N q hq).1, (N q hq).2⟩
  have het : @Ne Nat a t := fun z => by
    have z' : a = t := z
    rw [z', ht] at he; cases he
  have nd' : ((((a, excO t) :: (t, ({ cls := .type "tuple", data := .seq #[a1, a2] } : Obj)) :: c) ++ f.own).map (·.1)).Nodup := by
    refine List.nodup_cons.mpr ⟨fun hx => ?_, List.nodup_cons.mpr ⟨hno _ htn, nd⟩⟩
    rcases List.mem_cons.mp hx with e | hx
    · exact het e
    · exact hno _ hm.new hx
  have hs' : At Z f ⟨σ.m, .raw a (excO t) :: .raw t { cls := .type "tuple", data := .seq #[a1, a2] } :: σ.led⟩ { f.sh with heap := h', toks := tk } := ⟨h', tk, m, _ :: _ :: c, rfl, F', lm, N', ⟨[_], _, rfl, rfl, ⟨[_], _, rfl, rfl, X⟩⟩, nd'⟩
  obtain ⟨c2, X2, hs2⟩ := At.put (ex := [.raw a (excO t)]) hs'
  have O' := O.le hk
  refine wpAny_call (lisp_init (u1 := u1) (u2 := u2) n { f with own := c2 ++ f.own } σ.m _ ⟨O.B, O.X, O.T, O.fk, (O.le (Nat.zero_le _)).dp, (O.le (Nat.zero_le _)).un⟩ rfl rfl ?_ ?_ _ ⟨_, _, rfl, rfl, ⟨_, _, rfl, hv1, ⟨_, _, rfl, hv2, rfl⟩⟩⟩ _ (fun r led' hp r' s' hr hs3 => ?_) _ hs2)
  · have hw : (Code.builtin "type.__call__" ⟨[Value.ref 38, a1, a2], []⟩).weight = 1 := rfl
    show f.dp + (Code.builtin "type.__call__" ⟨[Value.ref 38, a1, a2], []⟩).weight + 2 * 1 < recursionLimit
    rw [hw]; have := O'.dp; omega
  · have hw : (Code.builtin "type.__call__" ⟨[Value.ref 38, a1, a2], []⟩).cUnits = 1 := rfl
    show f.un + (Code.builtin "type.__call__" ⟨[Value.ref 38, a1, a2], []⟩).cUnits + 40 * 1 < cLine
    rw [hw]; have := O'.un; omega
  · obtain ⟨d, od, v1, v2, rfl, h1, h2, hns, rfl⟩ := hp
    cases hr
    exact ⟨rfl, hR _ _ (hK a d t od _ v1 v2 h1 h2 hns) _ _ rfl (At.back X2 hs3)⟩
end
/-- a tree that only raises -/
def EvX {α : Type} (Z : Wd) (n : Fn) (f : Frm) (σ : St) (t : Sem α) (X : Value → Shared → Prop) : Prop :=
  ∀ (Q : α → Shared → Prop) (E : Value → Shared → Prop), (∀ v s, X v s → E v s) → ∀ s, At Z f σ s → wpAny Z.M (n.A f) t Q E s
abbrev ExX (Z : Wd) (n : Fn) (f : Frm) (σ : St) (b : List Stmt) (X : Value → Shared → Prop) : Prop := EvX Z n f σ (execs b (n.env f)) X
abbrev EeX (Z : Wd) (n : Fn) (f : Frm) (σ : St) (e : Expr) (X : Value → Shared → Prop) : Prop := EvX Z n f σ (eval e (n.env f)) X
def ArgsX (Z : Wd) (n : Fn) (f : Frm) (σ : St) (args : List Expr) (X : Value → Shared → Prop) : Prop := ∀ pos, EvX Z n f σ (spliced (backTo pos (starEach args (n.env f)))) X
def CallX (Z : Wd) (n : Fn) (f : Frm) (σ : St) (fv : Value) (vs : List SV) (X : Value → Shared → Prop) : Prop := ∀ vs', VsAre vs vs' → EvX Z n f σ (call fv vs') X
noncomputable abbrev errT : Str := Str.ofString "The mark is not set now, so there is no region"
def XArg (od : Obj) (ls : Addr) : Prop := ∃ t1, NsO od fun y => if y = Str.ofString "data" then some (.ref ls) else if y = Str.ofString "symbol" then some (.str (Str.ofString "error") t1) else none
theorem fr_fresh {h₀ g : Heap} {L : Addr} {m : Str → Option Value} (F : Fr h₀ L g m) {b : Addr} (hb : g.get? b = none) : b ≠ L ∧ h₀.get? b = none := by
  refine ⟨fun e => ?_, ?_⟩
  · obtain ⟨o, _, _, ho, _⟩ := F.ns
    rw [e, ho] at hb; cases hb
  · cases q : h₀.get? b with
    | none => rfl
    | some o => rw [F.keep b o q] at hb; cases hb
/-- our exception, made and raised in this frame -/
def Fresh (Z : Wd) (f : Frm) (σ : St) (v : Value) (s : Shared) : Prop :=
  ∃ a d t od tup ls, v = .ref a ∧ XArg od ls ∧ At Z f ⟨σ.m, .raw a (excD t d) :: .raw d od :: .raw t tup :: .list ls [.str errT] :: σ.led⟩ s
/-- our exception, on its way through this frame -/
def Fly (Z : Wd) (n : Fn) (f : Frm) (σ : St) (v : Value) (s : Shared) : Prop :=
  ∃ e d od tp ot ls t2 n1 h tk gg m c, v = .ref e ∧ s = { f.sh with heap := h, toks := tk } ∧ Fr f.h₀ f.L gg m ∧ LocIs σ.m m ∧ gg.UpToSlots h ∧ XArg od ls ∧
    RaisedD f.base (n.env f :: f.outer) e d ((d, od) :: (tp, ot) :: (ls, W.listOf #[.str errT t2] n1) :: (c ++ f.own)) h ∧ Exp Z σ.led c ∧ (ls :: (c ++ f.own).map (·.1)).Nodup ∧ ∀ q ∈ ls :: (c ++ f.own).map (·.1), q ≠ f.L ∧ f.h₀.get? q = none
theorem RaisedD.sub {base : Heap} {l : List Env} {e d : Addr} {a b : List (Addr × Obj)} {h : Heap} (hs : ∀ q ∈ b, q ∈ a) : RaisedD base l e d a h → RaisedD base l e d b h := by
  rintro ⟨B, a0, h1, h2, r⟩
  exact ⟨B, a0, h1, fun q hq => h2 q (hs q hq), r⟩
theorem Fly.perm {Z : Wd} {n : Fn} {f : Frm} {m : List (Str × SV)} {l l' : List SE} (p : l.Perm l') {v : Value} {s : Shared} : Fly Z n f ⟨m, l⟩ v s → Fly Z n f ⟨m, l'⟩ v s := by
  rintro ⟨e, d, od, tp, ot, ls, t2, n1, h, tk, gg, m', c, hv, hs, F, lm, U, A, R, X, nd, fr⟩
  obtain ⟨c', X', p'⟩ := Exp.perm p X
  refine ⟨e, d, od, tp, ot, ls, t2, n1, h, tk, gg, m', c', hv, hs, F, lm, U, A, R.sub fun q hq => ?_, X', ((((p'.append_right f.own).map _).cons _).nodup_iff).mp nd, fun q hq => fr q ((((p'.append_right f.own).map _).cons _).mem_iff.mpr hq)⟩
  exact ((((p'.append_right f.own).cons _).cons _).cons _).mem_iff.mpr hq
theorem Fly.back {Z : Wd} {n : Fn} {f : Frm} {m : List (Str × SV)} {ex rest : List SE} {v : Value} {s : Shared} {c2 : List (Addr × Obj)} (X2 : Exp Z rest c2) : Fly Z n { f with own := c2 ++ f.own } ⟨m, ex⟩ v s → Fly Z n f ⟨m, ex ++ rest⟩ v s := by
  rintro ⟨e, d, od, tp, ot, ls, t2, n1, h, tk, gg, m', c, hv, hs, F, lm, U, A, R, X, nd, fr⟩
  refine ⟨e, d, od, tp, ot, ls, t2, n1, h, tk, gg, m', c ++ c2, hv, hs, F, lm, U, A, ?_, Exp.app.mpr ⟨c, c2, rfl, X, X2⟩, ?_, ?_⟩
  · rw [List.append_assoc]; exact R
  · rw [List.append_assoc]; exact nd
  · rw [List.append_assoc]; exact fr
/-- what a call keeps to that raises our exception and leaves the ledger -/
def SpecX (Z : Wd) (k : Nat) (fa : Addr) (vs : List SV) (led : List SE) : Prop :=
  ∀ (n : Fn) (f : Frm) (m : List (Str × SV)) (A : Around), Ok Z n f 0 → A.handled = none → A.frames = some (n.env f :: f.outer) → A.depth + 2 * k < recursionLimit → A.units + 40 * k < cLine →
    ∀ vs', VsAre vs vs' → ∀ R : Result → Shared → Prop, (∀ v s', Fly Z n f ⟨m, led⟩ v s' → R (.error v) s') → ∀ s, At Z f ⟨m, led⟩ s → codeAny Z.M A (.call (.ref fa) ⟨vs', []⟩) R s
section
variable {Z : Wd} {n : Fn} {f : Frm} {σ : St} {k j : Nat} {e o : Expr} {x : Str} {p pos : Pos} {rest : List Stmt} {v : SV} {vs : List SV} {args : List Expr} {led ex rst : List SE} {fa : Addr} {X : Value → Shared → Prop}
theorem SpecX.call (S : SpecX Z j fa vs ex) (O : Ok Z n f k) (hj : j ≤ k) (sp : Split σ.led ex rst) : CallX Z n f σ (.ref fa) vs (Fly Z n f σ) := by
  intro vs' hv Q E hE s hs
  obtain ⟨c2, X2, hs'⟩ := At.put (At.perm sp.perm hs)
  have O' := O.le hj
  refine wpAny_call (S n { f with own := c2 ++ f.own } σ.m (n.A f) ⟨O.B, O.X, O.T, O.fk, (O.le (Nat.zero_le _)).dp, (O.le (Nat.zero_le _)).un⟩ rfl rfl O'.dp O'.un vs' hv _ (fun v s' hf => ?_) s hs')
  exact hE v s' (Fly.perm (m := σ.m) sp.perm.symm (Fly.back X2 hf))
/-- the callee's frame is left behind -/
theorem Fresh.leaves {n' : Fn} {f' : Frm} {m : List (Str × SV)} {σ' : St} {v : Value} {s : Shared} {A : Around} {Q : Unit → Shared → Prop} {E : Value → Shared → Prop} (hf : Fresh Z f' σ' v s) (B : Below A f.base (n.env f :: f.outer) f'.h₀) (hk : n'.cs.kind = .function)
    (hb : f'.base = f.base) (ho : f'.own = f.own) (hsh : f'.sh = f.sh) (hl : σ'.led = led) {m' : Str → Option Value} (FG : Fr f.h₀ f.L f'.h₀ m') (lm : LocIs m m')
    (hQ : ∀ s', Fly Z n f ⟨m, led⟩ v s' → Q () s') : wpAny Z.M (A.deeper (n'.env f')) (leaving (n'.env f') v) Q E s := by
  obtain ⟨a, d, t, od, tup, ls, rfl, xa, hs⟩ := hf
  obtain ⟨h, tk, m1, _, rfl, F, lm1, N, ⟨_, _, rfl, rfl, ⟨_, _, rfl, rfl, ⟨_, _, rfl, rfl, ⟨_, c, rfl, ⟨vs', n1, rfl, ⟨_, _, rfl, ⟨t2, rfl⟩, rfl⟩⟩, X⟩⟩⟩⟩, nd⟩ := hs
  rw [ho] at N nd
  refine leave_D1 B F N (upd_of (pre := []) nd).2 rfl rfl rfl rfl rfl rfl hk fun h' R U => hQ _ ?_
  refine ⟨a, d, od, t, tup, ls, t2, n1, h', tk, f'.h₀, m', c, rfl, by rw [hsh], FG, lm, U, xa, R, hl ▸ X, (List.nodup_cons.mp (List.nodup_cons.mp (List.nodup_cons.mp nd).2).2).2, fun q hq => fr_fresh FG ?_⟩
  obtain ⟨q', hq', rfl⟩ := List.mem_map.mp (show q ∈ ((ls, _) :: (c ++ f.own)).map (·.1) from hq)
  exact (N q' (.tail _ (.tail _ (.tail _ hq')))).2.2
theorem Fly.leaves {n' : Fn} {f' : Frm} {m : List (Str × SV)} {σ' : St} {v : Value} {s : Shared} {A : Around} {Q : Unit → Shared → Prop} {E : Value → Shared → Prop} (hf : Fly Z n' f' σ' v s) (B : Below A f.base (n.env f :: f.outer) f'.h₀)
    (hou : f'.outer = n.env f :: f.outer) (hb : f'.base = f.base) (ho : f'.own = f.own) (hsh : f'.sh = f.sh) (hl : σ'.led = led) {m' : Str → Option Value} (FG : Fr f.h₀ f.L f'.h₀ m') (lm : LocIs m m')
    (hQ : ∀ s', Fly Z n f ⟨m, led⟩ v s' → Q () s') : wpAny Z.M (A.deeper (n'.env f')) (leaving (n'.env f') v) Q E s := by
  obtain ⟨e, d, od, tp, ot, ls, t2, n1, h, tk, gg, m1, c, rfl, rfl, F, lm1, U, xa, R, X, nd, fr⟩ := hf
  rw [hb, hou, ho] at R
  rw [ho] at nd fr
  refine leave_D2 B F R U rfl fun h' R' U' => hQ _ ?_
  exact ⟨e, d, od, tp, ot, ls, t2, n1, h', tk, f'.h₀, m', c, rfl, by rw [hsh], FG, lm, U', xa, R', hl ▸ X, nd, fun q hq => fr_fresh FG (fr q hq).2⟩
theorem SpecX.body {fd : FuncData} {xs : List Str} {b : List Stmt} (hfd : fdOf Z.K fa = some fd) (hb : fd.body = .stmts b) (ht : fnTab.lookup fa = some xs) (hl : vs.length = xs.length) (hn : xs.Nodup) (ho : BindOk fd xs)
    (hB : ∀ f, Ok Z (nOf fd fa) f k → ∃ m1, ExX Z (nOf fd fa) f ⟨xs.zip vs, led⟩ b (Fresh Z f ⟨m1, led⟩) ∨ ExX Z (nOf fd fa) f ⟨xs.zip vs, led⟩ b (Fly Z (nOf fd fa) f ⟨m1, led⟩)) : SpecX Z (k + 1) fa vs led := by
  intro n f m A O hh hA hdp hun vs' hv R hR s hs
  have hg := fn_is (P := Z.w.params) ht
  unfold fnGood at hg
  rw [hfd] at hg
  simp only [Bool.and_eq_true] at hg
  obtain ⟨⟨⟨⟨⟨⟨⟨⟨g1, g2⟩, g3⟩, g4⟩, g5⟩, g6⟩, g7⟩, g8⟩, g9⟩ := hg
  obtain ⟨o, hlo, hd⟩ := fdOf_is hfd
  obtain ⟨name, qual, params, body, scope, globals, closure, dV, kV, doc, pm, an, cdv, ct, bu⟩ := fd
  dsimp only at *
  cases hb
  have e1 := eq_of_beq g1
  have e2 := eq_of_beq g2
  have e3 := List.isEmpty_iff.mp g3
  subst e1 e2 e3
  obtain ⟨h, tk, m', c, rfl, F, lm, N, X, nd⟩ := hs
  obtain ⟨oc, od, odt, osl⟩ := o
  cases hd
  refine code_raw O.B F O.X N O.T hA rfl O.fk hlo g9 (by omega) (BindsTo.of_eq (ho.zip ((vsAre_len hv).trans hl))) ?_ ?_ (fun x hx => ?_) (eq_of_beq g6) (eq_of_beq g7) (of_decide_eq_true g8)
  · intro y hy
    have hy' : y.1 ∈ xs := by rw [← zip_fst ((vsAre_len hv).trans hl)]; exact List.mem_map.mpr ⟨y, hy, rfl⟩
    exact of_decide_eq_true (List.all_eq_true.mp g4 _ hy')
  · intro g h₁ FG F' N' B' X' T'
    obtain ⟨Ah, Ad, Af, Ag, Au⟩ := A
    dsimp only at hh hA hdp hun
    subst hh hA
    obtain ⟨m1, hB⟩ := hB { dp := Ad + 1, un := Au + 3, gd := Ag, L := h.objs.size, outer := n.env f :: f.outer, A₀ := _, base := f.base, h₀ := g, own := f.own, sh := f.sh } ⟨B', X', T', of_decide_eq_true g8, by dsimp only; omega, by dsimp only; omega⟩
    have hat : ∀ x v, (xs.zip vs).lookup x = some v → ∃ v', (xs.zip vs').reverse.lookup x = some v' ∧ v.is v' := fun x v hx => by
      obtain ⟨v', h1, h2⟩ := zip_lookup hv hx
      exact ⟨v', rev_lookup (by rw [zip_fst ((vsAre_len hv).trans hl)]; exact hn) h1, h2⟩
    have hk8 := of_decide_eq_true g8
    rcases hB with hB | hB
    · exact hB _ _ (fun v s' hf => Fresh.leaves (n' := ⟨qual, scope, fa, cdv, []⟩) (n := n) (f := f) (Q := fun _ s'' => R (.error v) s'') hf B' hk8 rfl rfl rfl rfl FG lm fun s'' hf' => hR v s'' hf') _ ⟨h₁, _, _, c, rfl, F', hat, N', X, nd⟩
    · exact hB _ _ (fun v s' hf => Fly.leaves (n' := ⟨qual, scope, fa, cdv, []⟩) (n := n) (f := f) (Q := fun _ s'' => R (.error v) s'') hf B' rfl rfl rfl rfl rfl FG lm fun s'' hf' => hR v s'' hf') _ ⟨h₁, _, _, c, rfl, F', hat, N', X, nd⟩
  · exact of_decide_eq_true (List.all_eq_true.mp g5 x hx)
theorem SpecX.lam {F c' : Addr} {oc : Obj} {vsq : Array Value} {tq : Tok} {name qual : Str} {params : Arguments} {body : Expr} {scope : Scope} {clos : List (Str × Addr)} {pm ctv : Value}
    (hF : .raw F (kla_obj name qual params body scope clos pm c' ctv) ∈ led) (hc : .raw c' oc ∈ led) (hd : oc.data = .fields vsq) (hq : vsq[1]? = some (.str qual tq))
    (hbind : bindArgs (kla_fn name qual params body scope clos pm (.ref c') ctv) ⟨[], []⟩ = pure []) (hco : scope.isCoroutine = false) (hgen : scope.isGenerator = false) (hk : scope.kind = .function) (hcell : ∀ x ∈ scope.names, x.2 ≠ .cell)
    (hB : ∀ f, Ok Z ⟨qual, scope, F, .ref c', clos⟩ f k → ∃ m1, EeX Z ⟨qual, scope, F, .ref c', clos⟩ f ⟨[], led⟩ body (Fly Z ⟨qual, scope, F, .ref c', clos⟩ f ⟨m1, led⟩)) : SpecX Z (k + 1) F [] led := by
  rintro n f m A O hh hA hdp hun _ rfl R hR s hs
  obtain ⟨h, tk, m', c, rfl, Fm, lm, N, X, nd⟩ := hs
  have mF : (F, kla_obj name qual params body scope clos pm c' ctv) ∈ c := by
    obtain ⟨pre, c1, post, rfl, e⟩ := Exp.mem hF X
    cases (show c1 = [_] from e); simp
  have mc : (c', oc) ∈ c := by
    obtain ⟨pre, c1, post, rfl, e⟩ := Exp.mem hc X
    cases (show c1 = [_] from e); simp
  refine kla_code O.B Fm O.X N O.T hA rfl O.fk (List.mem_append_left _ mF) ⟨c', oc, vsq, tq, rfl, (N _ (List.mem_append_left _ mc)).1, hd, hq⟩ (by omega) hbind (by intro y hy; cases hy) ?_ hco hgen hk hcell
  intro g L' h₁ FG F' N' B' X' T'
  obtain ⟨Ah, Ad, Af, Ag, Au⟩ := A
  dsimp only at hh hA hdp hun
  subst hh hA
  obtain ⟨m1, hB⟩ := hB { dp := Ad + 1, un := Au + 3, gd := Ag, L := L', outer := n.env f :: f.outer, A₀ := _, base := f.base, h₀ := g, own := f.own, sh := f.sh } ⟨B', X', T', hk, by dsimp only; omega, by dsimp only; omega⟩
  exact hB _ _ (fun v s' hf => Fly.leaves (n := n) (f := f) (Q := fun _ s'' => R (.error v) s'') (n' := ⟨qual, scope, F, .ref c', clos⟩) hf B' rfl rfl rfl rfl rfl FG lm fun s'' hf' => hR v s'' hf') _ ⟨h₁, _, _, c, rfl, F', fun x v hx => (nomatch hx), N', X, nd⟩
end
section
variable {Z : Wd} {n : Fn} {f : Frm} {σ : St} {k j : Nat} {e o : Expr} {x : Str} {p pos : Pos} {rest : List Stmt} {v : SV} {vs : List SV} {args : List Expr} {led ex rst : List SE} {fa a C : Addr} {es : List (Str × SV)} {X : Value → Shared → Prop}
theorem exX_if {t : Expr} {A B : List Stmt} (h : TestOk Z n f σ t fun b σ1 => b = true ∧ ExX Z n f σ1 A X) : ExX Z n f σ (.If t A B pos :: rest) X := by
  refine fun Q E hE s hs => wpAny_execs_cons (wpAny_If (h _ rfl _ E (fun b σ1 hk b' s' hb hs' => ?_) s hs))
  cases hb
  obtain ⟨rfl, hk⟩ := hk
  rw [if_pos rfl]
  exact hk _ E hE s' hs'
theorem exX_raise {m1 : List (Str × SV)} (O : Ok Z n f k) (h : EvOk Z n f σ e fun v σ1 => ∃ a d t od tup ls, v = .ref a ∧ XArg od ls ∧ σ1 = ⟨m1, .raw a (excD t d) :: .raw d od :: .raw t tup :: .list ls [.str errT] :: led⟩) : ExX Z n f σ (.Raise (some e) none pos :: rest) (Fresh Z f ⟨m1, led⟩) := by
  refine fun Q E hE s hs => wpAny_execs_cons (lisp_raise rfl (h _ E (fun v σ1 hk v' s' hv hs' => ?_) s hs))
  obtain ⟨a, d, t, od, tup, ls, rfl, xa, rfl⟩ := hk
  cases hv
  have hs2 := hs'
  obtain ⟨h, tk, m, _, rfl, F, lm, N, ⟨_, c2, rfl, rfl, X⟩, nd⟩ := hs'
  exact RaiseQ.mk (lispCls_of O.X) F N (hE _ _ ⟨a, d, t, od, tup, ls, rfl, xa, hs2⟩)
theorem with_argsX {g : Addr} {first : List Value} {fs : List SV} {pos : Pos} (O : Ok Z n f k) (hk : keepIn Z.K (.ref g) = true) (hf : VsAre fs first) (hn : noStar (e :: args) = true) (h : ArgsOk Z n f σ (e :: args) fun vs σ1 => CallX Z n f σ1 (.ref g) (fs ++ vs) X)
    {Q E : Value → Shared → Prop} (hE : ∀ v s, X v s → E v s) {s : Shared} (hs : At Z f σ s) : wpAny Z.M (n.A f) (callWith pos (.ref g) first (backTo pos (starEach (e :: args) (n.env f))) []) Q E s := by
  obtain ⟨he, hr⟩ := noStar_cons hn (n.env f)
  exact callWith_K O.X hk (h pos _ E (fun vs σ1 hk1 vs' s1 hvs hs1 => ⟨hs1.kin O, hk1 _ (vsAre_app.mpr ⟨_, _, rfl, hf, hvs⟩) Q E hE s1 hs1⟩) s hs) he (noStar_any hr)
theorem evX_call {g : Addr} (O : Ok Z n f k) (hx : n.cs.names.lookup x = some .globalImplicit) (hd : (x == Str.ofString "__debug__") = false) (hg : globTab.lookup x = some g) (hn : noStar (e :: args) = true) (h : ArgsOk Z n f σ (e :: args) fun vs σ1 => CallX Z n f σ1 (.ref g) vs X)
    (hc : eval (.Call (.Name x p) (e :: args) [] pos) (n.env f) = (do
      let fv ← eval (.Name x p) (n.env f)
      callWith pos fv [] (backTo pos (starEach (e :: args) (n.env f))) (backToKw pos (keywordEach [] (n.env f)))) := by rfl) : EeX Z n f σ (.Call (.Name x p) (e :: args) [] pos) X := by
  intro Q E hE s hs
  refine Call_ ?_ hc
  have hs0 := hs
  obtain ⟨h1, tk, m, c, rfl, F, lm, N, X, nd⟩ := hs
  obtain ⟨g1, g2⟩ := glob_is (P := Z.w.params) hg
  exact nameX_K F O.X (topRead_of O.T) g1 (with_argsX (fs := []) O g2 rfl hn h hE hs0) O.fk hx hd
theorem argsX_ev (h : EeX Z n f σ e X) (hn : noStar (e :: args) = true := by rfl) : ArgsX Z n f σ (e :: args) X := fun pos _ E hE s hs => args_cons (h _ E hE s hs) (noStar_cons hn _).1
theorem argsX_2 (h : EvOk Z n f σ e fun _ σ1 => ArgsX Z n f σ1 args X) (hn : noStar (e :: args) = true := by rfl) : ArgsX Z n f σ (e :: args) X :=
  fun pos _ E hE s hs => args_cons (h _ E (fun _ _ hk v' s1 hv hs1 => hk pos _ E hE s1 hs1) s hs) (noStar_cons hn _).1
theorem evX_meth {g : Addr} {ap : Pos} {pl : Sem Bool} (O : Ok Z n f k) (ho : PE n σ o (.ref a)) (hm : .obj a C es ∈ σ.led) (hg : (methTab.lookup C).bind (·.lookup x) = some g) (hl : es.lookup x = none) (hn : noStar (e :: args) = true) (h : ArgsX Z n f σ (e :: args) X)
    (hc : eval (.Call (.Attribute o x ap) (e :: args) [] pos) (n.env f) = (do
      let ov ← eval o (n.env f)
      standAt ap.atName
      let (fx, first) ← holding [ov] (getMethod ov x pl)
      callWith pos fx first (backTo pos (starEach (e :: args) (n.env f))) []) := by with_unfolding_all rfl) : EeX Z n f σ (.Call (.Attribute o x ap) (e :: args) [] pos) X := by
  intro Q E hE s hs
  refine MethodCall_ (ho.sound O (fun o' s1 hao hs1 => ?_) hs) hc
  cases hao
  obtain ⟨g1, g2, g3, g4⟩ := meth_is (P := Z.w.params) hg
  obtain ⟨m, c, d, es', q, F, N, I, hf⟩ := hs1.inst hm
  obtain ⟨he, hr⟩ := noStar_cons hn (n.env f)
  exact method_inst F O.X I g1 g2 g3 ((fields_get hf).2.1 hl) (callWith_K O.X g4 (h pos _ E hE s1 hs1) he (noStar_any hr))
theorem exX_expr (h : EeX Z n f σ e X) (hi : interactive (n.env f) = false := by rfl) (hs : swapsWith e none pos.line (n.env f) = pure false := by rfl) : ExX Z n f σ (.Expr e pos :: rest) X :=
  fun _ E hE s hs' => wpAny_execs_cons (wpAny_Expr_any (h _ E hE s hs') hi hs)
theorem exX_assign {t : Expr} (h : EeX Z n f σ e X) (hs : swapsWithSole [t] e pos.line (n.env f) = pure false := by rfl) (hw : swappedStores [t] e (n.env f) = pure none := by rfl) : ExX Z n f σ (.Assign [t] e pos :: rest) X :=
  fun _ E hE s hs' => wpAny_execs_cons (wpAny_Assign_stores (h _ E hE s hs') hs hw)
theorem exX_ret (h : EeX Z n f σ e X) : ExX Z n f σ (.Return (some e) pos :: rest) X :=
  fun _ E hE s hs => wpAny_execs_cons (wpAny_Return_some (h _ E hE s hs))
theorem evX_list (h : ArgsX Z n f σ args X) : EeX Z n f σ (.List args pos) X :=
  fun _ E hE s hs => List_ (h pos _ E hE s hs)
theorem evX_fun0 {F : Addr} {oc : Value} {od : Option Addr} {fd : FuncData} {sl : Array (Option Value)} (O : Ok Z n f k) (ho : PE n σ (.Name x p) (.ref F)) (hm : .raw F ⟨oc, od, .func fd, sl⟩ ∈ σ.led) (h : CallX Z n f σ (.ref F) [] X)
    (hc : eval (.Call (.Name x p) [] [] pos) (n.env f) = (do
      let fv ← eval (.Name x p) (n.env f)
      callWith pos fv [] (backTo pos (starEach [] (n.env f))) (backToKw pos (keywordEach [] (n.env f)))) := by rfl) : EeX Z n f σ (.Call (.Name x p) [] [] pos) X := by
  refine fun Q E hE s hs => Call_ (ho.sound O (fun v' s1 hv hs1 => ?_) hs) hc
  cases hv
  have hs2 := hs1
  obtain ⟨h', tk, m, c, rfl, F', lm, N, X, nd⟩ := hs1
  obtain ⟨pre, c1, post, rfl, e⟩ := Exp.mem hm X
  cases (show c1 = [_] from e)
  exact callWith_F0 ⟨oc, od, fd, sl, (N (F, ⟨oc, od, .func fd, sl⟩) (by simp)).1⟩ (h [] rfl Q E hE _ hs2)
end
section
variable {Z : Wd} {B G M LI RG : Addr} {pt bv zv : Int}
theorem placeX : SpecX Z 3 235 [.ref B] [bufE B G M LI pt bv zv .none] := by
  refine SpecX.body rfl rfl rfl rfl (by decide) (fun _ => rfl) ?_
  intro f O
  refine ⟨[Str.ofString "buffer"].zip [.ref B], .inl (exX_if (tst_not (tst_call (ev_call O rfl rfl rfl rfl (args_pe O (by repeat' (first | constructor | omega)) (SpecC.call hasN_spec O (by decide) (by repeat' constructor) ?_))))))⟩
  rintro _ _ ⟨rfl, rfl⟩
  refine ⟨false, rfl, rfl, exX_raise O (ev_call O rfl rfl rfl rfl (args_ev (ev_pe O .str (args_ev (ev_list (args_pe O (by repeat' (first | constructor | omega)) ⟨(Nat.le_of_ble_eq_true rfl), fun D => args_nilE (call_lisp O (by decide) fun a d t od tup v1 v2 h1 h2 hns => ?_)⟩))))))⟩
  obtain ⟨t1, rfl⟩ := h1
  cases h2
  exact ⟨a, d, t, od, tup, D, rfl, ⟨t1, hns⟩, rfl⟩
theorem popX : SpecX Z 4 256 [.ref RG, .ref B] [bufE B G M LI pt bv zv .none] := by
  refine SpecX.body rfl rfl rfl rfl (by decide) (fun _ _ => rfl) ?_
  intro f O
  exact ⟨[Str.ofString "ring", Str.ofString "buffer"].zip [.ref RG, .ref B], .inr (exX_assign (evX_call O rfl rfl rfl rfl (args_pe O (by repeat' (first | constructor | omega)) (SpecX.call placeX O (by decide) (by repeat' constructor)))))⟩
theorem poptoX : SpecX Z 5 263 [.ref RG, .ref B] [bufE B G M LI pt bv zv .none] := by
  refine SpecX.body rfl rfl rfl rfl (by decide) (fun _ _ => rfl) ?_
  intro f O
  exact ⟨[Str.ofString "ring", Str.ofString "buffer"].zip [.ref RG, .ref B], .inr (exX_expr (evX_meth O (by repeat' (first | constructor | omega)) (by repeat' constructor) rfl rfl rfl (argsX_ev (evX_call O rfl rfl rfl rfl (args_pe O (by repeat' (first | constructor | omega)) (SpecX.call popX O (by decide) (by repeat' constructor)))))))⟩
end
section
variable {Z : Wd} {n : Fn} {f : Frm} {σ : St} {k j : Nat} {vs : List SV} {led : List SE} {fa : Addr}
/-- into a def, with its way out by an exception left open -/
theorem enter_raw {fd : FuncData} {xs : List Str} {b : List Stmt} (hfd : fdOf Z.K fa = some fd) (hb : fd.body = .stmts b) (ht : fnTab.lookup fa = some xs) (hl : vs.length = xs.length) (hn : xs.Nodup) (ho : BindOk fd xs)
    (O : Ok Z n f 0) {A : Around} (hh : A.handled = none) (hA : A.frames = some (n.env f :: f.outer)) (hdp : A.depth + 2 * (k + 1) < recursionLimit) (hun : A.units + 40 * (k + 1) < cLine) {vs' : List Value} (hv : VsAre vs vs') {m : List (Str × SV)} {s : Shared} (hs : At Z f ⟨m, led⟩ s) {R : Result → Shared → Prop}
    (h : ∀ f' m' s₁, f'.outer = n.env f :: f.outer → f'.base = f.base → f'.own = f.own → f'.sh = f.sh → (nOf fd fa).A f' = A.deeper ((nOf fd fa).env f') → Below A f.base (n.env f :: f.outer) f'.h₀ → Fr f.h₀ f.L f'.h₀ m' → LocIs m m' → f.h₀.objs.size ≤ f'.L → f.L ≠ f'.L → f.h₀.get? f.L = none → Ok Z (nOf fd fa) f' k → At Z f' ⟨xs.zip vs, led⟩ s₁ →
      wpAny Z.M (A.deeper ((nOf fd fa).env f')) (execs b ((nOf fd fa).env f')) (fun fl s' => R (.ok (.ret (match fl with | .ret v => v | _ => .none))) s')
        (fun e s' => wpAny Z.M (A.deeper ((nOf fd fa).env f')) (leaving ((nOf fd fa).env f') e) (fun _ s'' => R (.error e) s'') (fun e' s'' => R (.error e') s'') s') s₁) : codeAny Z.M A (.call (.ref fa) ⟨vs', []⟩) R s := by
  have hg := fn_is (P := Z.w.params) ht
  unfold fnGood at hg
  rw [hfd] at hg
  simp only [Bool.and_eq_true] at hg
  obtain ⟨⟨⟨⟨⟨⟨⟨⟨g1, g2⟩, g3⟩, g4⟩, g5⟩, g6⟩, g7⟩, g8⟩, g9⟩ := hg
  obtain ⟨o, hlo, hd⟩ := fdOf_is hfd
  obtain ⟨name, qual, params, body, scope, globals, closure, dV, kV, doc, pm, an, cdv, ct, bu⟩ := fd
  dsimp only at *
  cases hb
  have e1 := eq_of_beq g1
  have e2 := eq_of_beq g2
  have e3 := List.isEmpty_iff.mp g3
  subst e1 e2 e3
  obtain ⟨h0, tk, m', c, rfl, F, lm, N, X, nd⟩ := hs
  obtain ⟨oc, od, odt, osl⟩ := o
  cases hd
  refine code_raw O.B F O.X N O.T hA rfl O.fk hlo g9 (by omega) (BindsTo.of_eq (ho.zip ((vsAre_len hv).trans hl))) ?_ ?_ (fun x hx => ?_) (eq_of_beq g6) (eq_of_beq g7) (of_decide_eq_true g8)
  · intro y hy
    have hy' : y.1 ∈ xs := by rw [← zip_fst ((vsAre_len hv).trans hl)]; exact List.mem_map.mpr ⟨y, hy, rfl⟩
    exact of_decide_eq_true (List.all_eq_true.mp g4 _ hy')
  · intro g h₁ FG F' N' B' X' T'
    obtain ⟨Ah, Ad, Af, Ag, Au⟩ := A
    dsimp only at hh hA hdp hun
    subst hh hA
    have hat : ∀ x v, (xs.zip vs).lookup x = some v → ∃ v', (xs.zip vs').reverse.lookup x = some v' ∧ v.is v' := fun x v hx => by
      obtain ⟨v', h1, h2⟩ := zip_lookup hv hx
      exact ⟨v', rev_lookup (by rw [zip_fst ((vsAre_len hv).trans hl)]; exact hn) h1, h2⟩
    have hk8 := of_decide_eq_true g8
    exact h { dp := Ad + 1, un := Au + 3, gd := Ag, L := h0.objs.size, outer := n.env f :: f.outer, A₀ := _, base := f.base, h₀ := g, own := f.own, sh := f.sh } m' _ rfl rfl rfl rfl rfl B' FG lm (Nat.le_trans F.above (Nat.le_of_lt F.ns.lt)) (Nat.ne_of_lt F.ns.lt) (Heap.get?_none_of_le F.above) ⟨B', X', T', hk8, by dsimp only; omega, by dsimp only; omega⟩ ⟨h₁, _, _, c, rfl, F', hat, N', X, nd⟩
  · exact of_decide_eq_true (List.all_eq_true.mp g5 x hx)
/-- _law_told, when ask() raises -/
theorem call_toldX {F : Addr} {oc : Value} {od : Option Addr} {fd : FuncData} {sl : Array (Option Value)} {K : SV → St → Prop} (O : Ok Z n f k) (hbase : f.base = f.h₀) (hj : j + 1 ≤ k) (S : SpecX Z j F [] σ.led) (hm : .raw F ⟨oc, od, .func fd, sl⟩ ∈ σ.led)
    (hK : ∀ D ls, K (.ref D) ⟨σ.m, .list D [.str (Str.ofString "error"), .ref ls] :: .list ls [.str errT] :: σ.led⟩) : CallOk Z n f σ (.ref 576) [.ref F] K := by
  intro vs' hv R E hR s hs
  have O' := O.le hj
  refine wpAny_call (enter_raw (k := j) (fa := 576) rfl rfl rfl rfl (by decide) (fun _ => rfl) (O.le (Nat.zero_le _)) rfl rfl O'.dp O'.un hv hs ?_)
  intro f' m' s₁ hou hbs how hsh hA' B' FG lm hab hLL hLn Of hat
  rw [← hA']
  refine wpAny_execs_cons (wpAny_Try_except ((exX_ret (σ := ⟨[Str.ofString "ask"].zip [.ref F], σ.led⟩) (evX_list (argsX_2 (ev_pe Of .str (argsX_ev (evX_fun0 Of (by repeat' (first | constructor | omega)) hm (SpecX.call S Of (Nat.le_refl _) (Split.all _)))))))) _ _ ?_ s₁ hat))
  rintro v s2 ⟨e, d, od, tp, ot, ls, t2, n1, h, tk, gg, m1, c, rfl, rfl, F1, lm1, U, ⟨t1, xa⟩, Rz, X, nd, fr⟩
  rw [hou, hbs, hbase, how] at Rz
  rw [hbase] at B'
  rw [how] at nd
  rw [hA', how] at *
  refine caught_D B' F1 hab U Rz O.X (topRead_of O.T) (glob_is (P := Z.w.params) (x := Str.ofString "LispSignal") rfl).1 hLL hLn FG.ns ?_
  intro h'' tk2 oe oL F2 N2 hoL hc hnc hdn
  have hX := lispCls_of O.X
  have e1 : (e, oe) ∈ (f.L, oL) :: (e, oe) :: (d, od) :: (tp, ot) :: (ls, W.listOf #[.str errT t2] n1) :: (c ++ f.own) := .tail _ (.head _)
  have e2 : (d, od) ∈ (f.L, oL) :: (e, oe) :: (d, od) :: (tp, ot) :: (ls, W.listOf #[.str errT t2] n1) :: (c ++ f.own) := .tail _ (.tail _ (.head _))
  refine wpAny_execs_cons (wpAny_Return_some (List_ (args_cons (Attribute_Name_ (nameX_L F2 (if_pos rfl) (lisp_load hX F2 N2 e1 e2 hc hnc hdn xa (.inl rfl) rfl rfl ?_))) rfl)))
  refine args_cons (Attribute_Name_ (nameX_L F2 (if_pos rfl) (lisp_load hX F2 N2 e1 e2 hc hnc hdn xa (.inr rfl) rfl rfl ?_))) rfl
  refine args_nil (newList_K F2 N2 (fun r h3 F3 N3 l3 => ?_) (by rw [sizeLine_eq]; exact Nat.le_of_ble_eq_true rfl))
  refine name_goes F3 N3 fun h4 m4 F4 N4 => ?_
  obtain ⟨es, ep, hoLd, hoLk, hoLf⟩ := hoL
  have hL4 := (N4 (f.L, oL) (.tail _ (.head _))).1
  have F5 : Fr f.h₀ f.L h4 m' := ⟨⟨oL, es, ep, hL4, hoLd, hoLk, hoLf⟩, F4.keep, FG.above⟩
  have N5 : News f.h₀ f.L h4 ((r, W.listOf #[.str (Str.ofString "error") t1, .ref ls] 0) :: (ls, W.listOf #[.str errT t2] n1) :: c ++ f.own) := fun q hq => by
    rcases List.mem_cons.mp hq with rfl | hq
    · exact ⟨(N4 _ (.head _)).1, Nat.ne_of_gt (l3 (f.L, oL) (.head _)), (N4 _ (.head _)).2.2⟩
    · have n4 := N4 q (.tail _ (.tail _ (.tail _ (.tail _ (.tail _ hq)))))
      exact ⟨n4.1, (fr_fresh FG (fr q.1 (List.mem_map.mpr ⟨q, hq, rfl⟩)).2).1, n4.2.2⟩
  have nd5 : ((((r, W.listOf #[.str (Str.ofString "error") t1, .ref ls] 0) :: (ls, W.listOf #[.str errT t2] n1) :: c) ++ f.own).map (·.1)).Nodup := List.nodup_cons.mpr ⟨fun hm => by
    obtain ⟨q, hq, z⟩ := List.mem_map.mp hm
    exact Nat.ne_of_lt (l3 q (.tail _ (.tail _ (.tail _ (.tail _ hq))))) z, nd⟩
  refine hR _ _ (hK r ls) _ _ rfl ⟨h4, _, m', (r, _) :: (ls, _) :: c, by rw [hsh], F5, lm, N5, ⟨[_], _, rfl, ⟨_, _, rfl, ⟨_, _, rfl, ⟨_, rfl⟩, ⟨_, _, rfl, rfl, rfl⟩⟩⟩, ⟨[_], _, rfl, ⟨_, _, rfl, ⟨_, _, rfl, ⟨_, rfl⟩, rfl⟩⟩, X⟩⟩, nd5⟩
end
noncomputable abbrev toldD (i : Int) : PyData := .list [.str (Str.ofString "told"), .int i]
noncomputable abbrev errD : PyData := .list [.str (Str.ofString "error"), .list [.str errT]]
/-- what was told, as data -/
inductive ToldIs (led : List SE) : Addr → PyData → Prop
  | told {a i} : .list a [.str (Str.ofString "told"), .int i] ∈ led → ToldIs led a (toldD i)
  | err {a b} : .list a [.str (Str.ofString "error"), .ref b] ∈ led → .list b [.str errT] ∈ led → ToldIs led a errD
section
variable {Z : Wd} {n : Fn} {f : Frm} {σ : St} {k : Nat} {e o l r : Expr} {p pos : Pos} {x y : Str} {v : SV}
theorem ToldIs.reads {s : Shared} {a : Addr} {d : PyData} (hs : At Z f σ s) (h : ToldIs σ.led a d) : (∃ as, Reads s.heap (.ref a) d as) ∧ SeqAt.shaped d = true ∧ PyData.eqv d d = true := by
  cases h with
  | @told i hm =>
    obtain ⟨_, ⟨o, h1, h2, n, h3⟩, ⟨_, _, rfl, ⟨t, rfl⟩, ⟨_, _, rfl, ⟨t2, rfl⟩, rfl⟩⟩⟩ := hs.isList hm
    refine ⟨⟨_, .list h1 h2 h3 (.cons (.str _ _) (.cons (.int _ _) .nil))⟩, by simp [SeqAt.shaped, PyData.canLay0, PyData.canLayAll0, PyData.depth, PyData.depthAll]; kernel_rfl, by simp [PyData.eqv, PyData.eqvAll]⟩
  | err hm hm2 =>
    obtain ⟨_, ⟨o, h1, h2, n, h3⟩, ⟨_, _, rfl, ⟨t, rfl⟩, ⟨_, _, rfl, rfl, rfl⟩⟩⟩ := hs.isList hm
    obtain ⟨_, ⟨o2, k1, k2, n2, k3⟩, ⟨_, _, rfl, ⟨t2, rfl⟩, rfl⟩⟩ := hs.isList hm2
    refine ⟨⟨_, .list h1 h2 h3 (.cons (.str _ _) (.cons (.list k1 k2 k3 (.cons (.str _ _) .nil)) .nil))⟩, by simp [SeqAt.shaped, PyData.canLay0, PyData.canLayAll0, PyData.depth, PyData.depthAll]; exact ⟨by kernel_rfl, by kernel_rfl⟩, by simp [PyData.eqv, PyData.eqvAll]⟩
theorem tst_neT {K : Bool → St → Prop} (O : Ok Z n f k) (hk : 2 ≤ k) (h : EvOk Z n f σ l fun v σ1 => ∃ a, v = .ref a ∧ EvOk Z n f σ1 r fun u σ2 => ∃ (b : Addr) (d : PyData), u = .ref b ∧ ToldIs σ2.led a d ∧ ToldIs σ2.led b d ∧ K false σ2)
    (hm : behindInMarks .NotEq r = false := by rfl) : TestOk Z n f σ (.Compare l [.NotEq] [r] pos) K := by
  refine fun _ _ R E hR s hs => wpAny_isTrue_Compare1 (h _ E (fun v σ1 hk v' s1 hv hs1 => ?_) s hs) hm
  obtain ⟨a, rfl, hk⟩ := hk
  refine hk _ E (fun u σ2 hk2 u' s2 hu hs2 => ?_) s1 hs1
  obtain ⟨b, d, rfl, t1, t2, hK⟩ := hk2
  cases hv
  cases hu
  obtain ⟨⟨as, r1⟩, sh, eq⟩ := t1.reads hs2
  obtain ⟨⟨bs, r2⟩, _, _⟩ := t2.reads hs2
  have := O.un
  exact ne_dataH r1 r2 sh sh (by show f.un + 64 < cLine; omega) (wpAny_truthy_bool (by rw [eq]; exact hR _ _ hK _ _ rfl hs2))
theorem ev_eqS {a b : Str} {K : SV → St → Prop} (O : Ok Z n f k) (h1 : PE n σ l (.str a)) (h2 : PE n σ r (.str b)) (hK : K (.bool (a == b)) σ) (hm : behindInMarks .Eq r = false := by rfl) : EvOk Z n f σ (.Compare l [.Eq] [r] pos) K := by
  refine fun R E hR s hs => wpAny_Compare1 (h1.sound O (fun u s1 hu hs1 => h2.sound O (fun w s2 hw hs2 => ?_) hs1) hs) hm
  obtain ⟨t, rfl⟩ := hu
  obtain ⟨t', rfl⟩ := hw
  exact eq_str (hR _ _ hK _ _ rfl hs2)
theorem tst_neS {a b : Str} {K : Bool → St → Prop} (O : Ok Z n f k) (h1 : PE n σ l (.str a)) (h2 : PE n σ r (.str b)) (hK : K (a != b) σ) (hm : behindInMarks .NotEq r = false := by rfl) : TestOk Z n f σ (.Compare l [.NotEq] [r] pos) K := by
  refine fun _ _ R E hR s hs => wpAny_isTrue_Compare1 (h1.sound O (fun u s1 hu hs1 => h2.sound O (fun w s2 hw hs2 => ?_) hs1) hs) hm
  obtain ⟨t, rfl⟩ := hu
  obtain ⟨t', rfl⟩ := hw
  exact ne_str (wpAny_truthy_bool (hR _ _ hK _ _ rfl hs2))
end
theorem codeAmong_other {p q : Pos} {c : Value} (hne : ¬(q.line = p.line ∧ q.col = p.col)) : ∀ l : List Value, TriplesOk l → codeAmong p (l ++ [rawInt q.line, rawInt q.col, c]) = codeAmong p l := by
  intro l
  induction l using TriplesOk.induct with
  | case1 =>
    intro _
    show codeAmong p [rawInt q.line, rawInt q.col, c] = _
    simp only [codeAmong, rawInt]
    rw [if_neg]
    intro h
    simp only [Bool.and_eq_true, beq_iff_eq] at h
    exact hne ⟨by have := h.1; omega, by have := h.2; omega⟩
  | case2 a ta b tb d rest ih =>
    intro h
    simp only [List.cons_append, codeAmong]
    split
    · rfl
    · exact ih h
  | case3 l h1 h2 =>
    intro h
    simp [TriplesOk] at h
theorem triples_snoc {q : Pos} {c : Value} : ∀ l : List Value, TriplesOk l → TriplesOk (l ++ [rawInt q.line, rawInt q.col, c]) := by
  intro l
  induction l using TriplesOk.induct with
  | case1 => intro _; exact trivial
  | case2 a ta b tb d rest ih => intro h; exact ih h
  | case3 l h1 h2 => intro h; simp [TriplesOk] at h
/-- a lambda's code in the table: not yet there, or there and in the ledger -/
def TabAt (q : Str) (ln cl : Nat) (ps : Array Value) (LL : List SE) : Prop :=
  (∀ el ec, codeAmong ⟨ln, cl, el, ec⟩ ps.toList = none) ∨ ∃ c' oc vs t, (∀ el ec, codeAmong ⟨ln, cl, el, ec⟩ ps.toList = some (.ref c')) ∧ .raw c' oc ∈ LL ∧ oc.data = .fields vs ∧ vs[1]? = some (.str q t)
theorem TabAt.other {q : Str} {p : Pos} {ln cl : Nat} {ps : Array Value} {c' : Value} {e : SE} {LL : List SE} (ht : TriplesOk ps.toList) (hne : ¬(p.line = ln ∧ p.col = cl)) (h : TabAt q ln cl ps LL) : TabAt q ln cl (ps ++ #[rawInt p.line, rawInt p.col, c']) (e :: LL) := by
  have e : ∀ el ec, codeAmong ⟨ln, cl, el, ec⟩ (ps ++ #[rawInt p.line, rawInt p.col, c']).toList = codeAmong ⟨ln, cl, el, ec⟩ ps.toList := fun el ec => by
    rw [Array.toList_append]
    exact codeAmong_other (p := ⟨ln, cl, el, ec⟩) hne _ ht
  rcases h with h | ⟨c1, oc, vs, t, h, hm, r⟩
  · exact .inl fun el ec => (e el ec).trans (h el ec)
  · exact .inr ⟨c1, oc, vs, t, fun el ec => (e el ec).trans (h el ec), .tail _ hm, r⟩
theorem TabAt.self {q : Str} {p : Pos} {ps : Array Value} {c' : Addr} {oc : Obj} {vs : Array Value} {t : Tok} {LL : List SE} (ht : TriplesOk ps.toList) (hn : ∀ el ec, codeAmong ⟨p.line, p.col, el, ec⟩ ps.toList = none) (hd : oc.data = .fields vs) (hv : vs[1]? = some (.str q t)) : TabAt q p.line p.col (ps ++ #[rawInt p.line, rawInt p.col, .ref c']) (.raw c' oc :: LL) := by
  refine .inr ⟨c', oc, vs, t, fun el ec => ?_, .head _, hd, hv⟩
  rw [Array.toList_append]
  exact codeAmong_snoc (pos := ⟨p.line, p.col, el, ec⟩) _ ht (hn el ec)
section
variable {Z : Wd} {n : Fn} {f : Frm} {σ : St} {k j : Nat} {m : List (Str × SV)} {l LL : List SE} {c P : Addr} {ps : Array Value} {params : Arguments} {body : Expr} {scope : Scope} {pos : Pos} {clos : List (Str × Addr)}
theorem Ev.out {α β : Type} {rel : β → α → Prop} {t : Sem α} {K : β → St → Prop} (h : Ev rel Z n f σ t fun v σ1 => ∃ σ2, Weak Z σ1 σ2 ∧ K v σ2) : Ev rel Z n f σ t K :=
  fun R E hR s hs => h R E (fun v σ1 hk v' s' hv hs' => by obtain ⟨σ2, hw, hk⟩ := hk; exact hR v σ2 hk v' s' hv (hw f s' hs')) s hs
/-- a lambda, met first or again -/
theorem ev_lam {K : SV → St → Prop} (O : Ok Z n f k) (hdef : defaultsOf params (n.env f) = ([], [])) (C : CodeHd f.h₀ c P) (hcd : n.ccd = .ref c) (ht : TriplesOk ps.toList) (T : TabAt ((n.env f).qual ++ "<lambda>") pos.line pos.col ps LL) (hcl : closureFor scope (n.env f) = pure clos)
    (hK : ∀ F pm ctv c' oc vs t ps' LL', oc.data = .fields vs → vs[1]? = some (.str ((n.env f).qual ++ "<lambda>") t) → .raw c' oc ∈ LL' → TriplesOk ps'.toList → TabAt ((n.env f).qual ++ "<lambda>") pos.line pos.col ps' LL' →
      (∀ ln cl, ¬(pos.line = ln ∧ pos.col = cl) → TabAt ((n.env f).qual ++ "<lambda>") ln cl ps LL → TabAt ((n.env f).qual ++ "<lambda>") ln cl ps' LL') →
      K (.ref F) ⟨m, .raw F (kla_obj "<lambda>" ((n.env f).qual ++ "<lambda>") params body scope clos pm c' ctv) :: .raw P (tabObj ps') :: (l ++ LL')⟩) :
    EvOk Z n f ⟨m, .raw P (tabObj ps) :: (l ++ LL)⟩ (.Lambda params body scope pos) K := by
  rcases T with T | ⟨c', oc, vs, t, T, hm, hd, hv⟩
  · refine Ev.out (ev_lamN O hdef C hcd ht (T pos.endLine pos.endCol) hcl fun F pm c' oc vs t ctv hd hv => ⟨_, Weak.perm ?_, hK F pm ctv c' oc vs t _ (.raw c' oc :: LL) hd hv (.head _) ?_ (TabAt.self ht T hd hv) fun ln cl hne h => TabAt.other ht hne h⟩)
    · refine .cons _ ((List.Perm.swap _ _ _).trans (.cons _ ?_))
      exact List.perm_middle.symm
    · rw [Array.toList_append]; exact triples_snoc _ ht
  · exact ev_lamA O hdef C hcd ht (T pos.endLine pos.endCol) hcl (.head _) fun F pm ctv => hK F pm ctv c' oc vs t ps LL hd hv hm ht (.inr ⟨c', oc, vs, t, T, hm, hd, hv⟩) fun _ _ _ h => h
end
section
variable {Z : Wd} {j : Nat} {x : Fx} {v : Vr} {F c' c4 c5 : Addr} {oc : Obj} {vsq : Array Value} {tq : Tok} {name qual y : Str} {params : Arguments} {scope : Scope} {clos : List (Str × Addr)} {pm ctv : Value} {p1 p2 p3 p4 : Pos} {ga : Addr} {P : SV → List SE → Prop}
/-- a lambda that hands ring and buffer to a def -/
theorem lam_spec {led rst : List SE} (S : SpecC Z j ga [.ref x.RG, .ref x.B] (sysL x v) P) (hd : oc.data = .fields vsq) (hq : vsq[1]? = some (.str qual tq)) (hyd : (y == Str.ofString "__debug__") = false)
    (hF : .raw F (kla_obj name qual params (.Call (.Name y p1) [.Name (Str.ofString "ring") p2, .Name (Str.ofString "buffer") p3] [] p4) scope clos pm c' ctv) ∈ led) (hc : .raw c' oc ∈ led) (m4 : .cell c4 (.ref x.B) ∈ led) (m5 : .cell c5 (.ref x.RG) ∈ led) (sp : Split led (sysL x v) rst)
    (hbind : bindArgs (kla_fn name qual params (.Call (.Name y p1) [.Name (Str.ofString "ring") p2, .Name (Str.ofString "buffer") p3] [] p4) scope clos pm (.ref c') ctv) ⟨[], []⟩ = pure []) (hco : scope.isCoroutine = false) (hgen : scope.isGenerator = false) (hk : scope.kind = .function) (hcell : ∀ x ∈ scope.names, x.2 ≠ .cell)
    (hy : scope.names.lookup y = some .globalImplicit) (hg : globTab.lookup y = some ga) (hr : scope.names.lookup (Str.ofString "ring") = some .free) (hb : scope.names.lookup (Str.ofString "buffer") = some .free) (h5 : clos.lookup (Str.ofString "ring") = some c5) (h4 : clos.lookup (Str.ofString "buffer") = some c4) :
    SpecC Z (j + 1) F [] led (fun r ex' => ∃ ex2, P r ex2 ∧ ex' = ex2 ++ rst) := by
  refine SpecC.lam hF hc hd hq hbind hco hgen hk hcell fun f K O hK => ?_
  refine ev_call O hy hyd hg rfl (args_pe O (.cons (.fre hr (by decide) (by decide) h5 m5) (.cons (.fre hb (by decide) (by decide) h4 m4) .nil)) (SpecC.call S O (Nat.le_refl _) sp ?_))
  intro r ex' hp
  exact hK (Split.all _) ⟨ex', hp, rfl⟩
theorem lam_specX {B G M LI RG : Addr} {pt bv zv : Int} {led : List SE} (S : SpecX Z j ga [.ref RG, .ref B] [bufE B G M LI pt bv zv .none]) (hd : oc.data = .fields vsq) (hq : vsq[1]? = some (.str qual tq)) (hyd : (y == Str.ofString "__debug__") = false)
    (hF : .raw F (kla_obj name qual params (.Call (.Name y p1) [.Name (Str.ofString "ring") p2, .Name (Str.ofString "buffer") p3] [] p4) scope clos pm c' ctv) ∈ led) (hc : .raw c' oc ∈ led) (m4 : .cell c4 (.ref B) ∈ led) (m5 : .cell c5 (.ref RG) ∈ led) {rst : List SE} (sp : Split led [bufE B G M LI pt bv zv .none] rst)
    (hbind : bindArgs (kla_fn name qual params (.Call (.Name y p1) [.Name (Str.ofString "ring") p2, .Name (Str.ofString "buffer") p3] [] p4) scope clos pm (.ref c') ctv) ⟨[], []⟩ = pure []) (hco : scope.isCoroutine = false) (hgen : scope.isGenerator = false) (hk : scope.kind = .function) (hcell : ∀ x ∈ scope.names, x.2 ≠ .cell)
    (hy : scope.names.lookup y = some .globalImplicit) (hg : globTab.lookup y = some ga) (hr : scope.names.lookup (Str.ofString "ring") = some .free) (hb : scope.names.lookup (Str.ofString "buffer") = some .free) (h5 : clos.lookup (Str.ofString "ring") = some c5) (h4 : clos.lookup (Str.ofString "buffer") = some c4) :
    SpecX Z (j + 1) F [] led := by
  refine SpecX.lam hF hc hd hq hbind hco hgen hk hcell fun f O => ⟨[], ?_⟩
  exact evX_call O hy hyd hg rfl (args_pe O (.cons (.fre hr (by decide) (by decide) h5 m5) (.cons (.fre hb (by decide) (by decide) h4 m4) .nil)) (SpecX.call S O (Nat.le_refl _) sp))
end
theorem Inv.narrowed {x : Fx} {v : Vr} (I : Inv x v) (h : 4 ≤ v.sz) (pt : Int) : Inv x { v with pt := pt, bv := min 2 v.sz, zv := max 2 v.sz } :=
  ⟨I.g, by have := I.b; show 1 ≤ min 2 v.sz ∧ min 2 v.sz ≤ max 2 v.sz ∧ max 2 v.sz ≤ v.sz + 1; omega, I.m, I.len, I.num0, I.nums, I.last, I.nd, I.pos⟩
theorem Inv.pt {x : Fx} {v : Vr} (I : Inv x v) (pt : Int) : Inv x { v with pt := pt } := ⟨I.g, I.b, I.m, I.len, I.num0, I.nums, I.last, I.nd, I.pos⟩
def gm (st en W : Int) (p : Int) : Int := fI st (st + W) (fD st en p)
abbrev Vr.ed (v : Vr) (pt zv gs ge N : Int) (g : Int → Int) : Vr := ⟨v.RL, pt, 1, zv, gs, ge, N, v.last, v.k0.map (Mark.mv g), v.rs.map (Mark.mv g)⟩
theorem ms_mv {v : Vr} {pt zv gs ge N : Int} {g : Int → Int} : (v.ed pt zv gs ge N g).ms = v.ms.map (Mark.mv g) := by
  show (v.k0.map (Mark.mv g)).toList ++ v.rs.map (Mark.mv g) = _
  rw [List.map_append]
  cases v.k0 <;> rfl
theorem sysL_mv {x : Fx} {v : Vr} {pt zv gs ge N : Int} {g : Int → Int} : sysL x (v.ed pt zv gs ge N g) = [bufE x.B x.G x.M x.LI pt 1 zv v.mkv, mksE x.M x.R, .rows x.R (v.ms.map Mark.key), .marks x.B (v.ms.map (Mark.mv g)), gapE x.G x.c gs ge, .anyL x.c N, ringE x.RG v.RL x.most v.last, .list v.RL (v.rs.map fun q => .ref q.a), .list x.LI []] := by
  have h1 : (v.ed pt zv gs ge N g).mkv = v.mkv := by
    obtain ⟨_, _, _, _, _, _, _, _, k0, _⟩ := v
    cases k0 <;> rfl
  show [bufE x.B x.G x.M x.LI pt 1 zv (v.ed pt zv gs ge N g).mkv, mksE x.M x.R, .rows x.R ((v.ed pt zv gs ge N g).ms.map Mark.key), .marks x.B (v.ed pt zv gs ge N g).ms, gapE x.G x.c gs ge, .anyL x.c N, ringE x.RG v.RL x.most v.last, .list v.RL ((v.rs.map (Mark.mv g)).map fun q => .ref q.a), .list x.LI []] = _
  rw [h1, ms_mv, key_mv, List.map_map]
  rfl
theorem Inv.edit {x : Fx} {v : Vr} (I : Inv x v) {pt zv gs ge N st en W : Int} (h : 1 ≤ st ∧ st ≤ en ∧ en ≤ v.sz + 1 ∧ 1 ≤ W) (g : 0 ≤ gs ∧ gs ≤ ge ∧ ge ≤ N ∧ N ≤ 4000) (hs : N - ge + gs = v.sz - (en - st) + W) (hz : zv = v.sz - (en - st) + W + 1) : Inv x (v.ed pt zv gs ge N (gm st en W)) := by
  refine ⟨g, ?_, I.m, ?_, ?_, ?_, I.last, ?_, ?_⟩
  · have := h; show 1 ≤ (1 : Int) ∧ 1 ≤ zv ∧ zv ≤ N - ge + gs + 1; omega
  · show (((v.rs.map _).length : Nat) : Int) ≤ x.most
    rw [List.length_map]; exact I.len
  · intro q hq
    obtain ⟨q', h1, rfl⟩ := Option.map_eq_some_iff.mp (show v.k0.map _ = some q from hq)
    exact I.num0 q' h1
  · intro q hq
    obtain ⟨q', h1, rfl⟩ := List.mem_map.mp hq
    exact I.nums q' h1
  · show ((v.rs.map (Mark.mv _)).map (·.num)).Nodup
    rw [List.map_map]; exact I.nd
  · intro q hq
    rw [ms_mv] at hq
    obtain ⟨q', h1, rfl⟩ := List.mem_map.mp hq
    have hp := I.pos q' h1
    show 1 ≤ gm st en W q'.pos ∧ gm st en W q'.pos ≤ N - ge + gs + 1
    unfold gm fI fD
    split <;> split <;> (try split) <;> omega
/-- the state of the law between the turns -/
structure LawK where
  x : Fx
  (D ID c1 c2 c3 c4 c5 : Addr)
  js : List Int
structure LawV where
  v : Vr
  (Md Rg : Addr)
  (e1 e2 e3 : SE)
  ps : Array Value
  LL : List SE
  (kk sd : Int)
noncomputable abbrev lawM (y : LawK) (Md : Addr) : List (Str × SV) := [(Str.ofString "deck", .ref y.D), (Str.ofString "most", .int y.x.most), (Str.ofString "model", .ref Md)]
noncomputable abbrev lawE (y : LawK) (u : LawV) : List SE := .raw 611 (tabObj u.ps) :: .cell y.c4 (.ref y.x.B) :: .cell y.c5 (.ref y.x.RG) :: u.e1 :: u.e2 :: u.e3 :: (deckL y.D y.ID y.js u.kk u.sd ++ (modelL u.Md u.Rg (mpOf u.v.k0) (u.v.rs.map (·.pos)) ++ sysL y.x u.v))
noncomputable abbrev lawL (y : LawK) (u : LawV) : List SE := .raw 611 (tabObj u.ps) :: .cell y.c4 (.ref y.x.B) :: .cell y.c5 (.ref y.x.RG) :: u.e1 :: u.e2 :: u.e3 :: (deckL y.D y.ID y.js u.kk u.sd ++ (modelL u.Md u.Rg (mpOf u.v.k0) (u.v.rs.map (·.pos)) ++ (sysL y.x u.v ++ u.LL)))
structure LawI (q : Str) (y : LawK) (i : Nat) (u : LawV) : Prop where
  inv : Inv y.x u.v
  sz : 4 ≤ u.v.sz
  N : u.v.N ≤ 40 + 5 * (i : Int)
  i1 : IsCell y.c1 u.e1
  i2 : IsCell y.c2 u.e2
  i3 : IsCell y.c3 u.e3
  tr : TriplesOk u.ps.toList
  t1 : TabAt q 388 25 u.ps u.LL
  t2 : TabAt q 392 34 u.ps u.LL
def LawJ (q : Str) (y : LawK) (i : Nat) (τ : St) : Prop := ∃ u : LawV, τ = ⟨lawM y u.Md, lawL y u⟩ ∧ LawI q y i u ∧ 0 ≤ u.kk ∧ u.kk ≤ 10 + 10 * (i : Int)
theorem LawI.next {q : Str} {y : LawK} {i : Nat} {u : LawV} (I : LawI q y i u) : LawI q y (i + 1) u :=
  ⟨I.inv, I.sz, by have := I.N; omega, I.i1, I.i2, I.i3, I.tr, I.t1, I.t2⟩
theorem TabAt.mono {q : Str} {ln cl : Nat} {ps : Array Value} {LL LL' : List SE} (h : ∀ e ∈ LL, e ∈ LL') : TabAt q ln cl ps LL → TabAt q ln cl ps LL'
  | .inl h1 => .inl h1
  | .inr ⟨c', oc, vs, t, h1, h2, r⟩ => .inr ⟨c', oc, vs, t, h1, h _ h2, r⟩
theorem LawI.more {q : Str} {y : LawK} {i : Nat} {u : LawV} {LL' : List SE} (I : LawI q y i u) (h : ∀ e ∈ u.LL, e ∈ LL') : LawI q y i { u with LL := LL' } :=
  ⟨I.inv, I.sz, I.N, I.i1, I.i2, I.i3, I.tr, I.t1.mono h, I.t2.mono h⟩
theorem lawL_weak {Z : Wd} {y : LawK} {u : LawV} {m m' : List (Str × SV)} {led rst : List SE} (hm : ∀ z w, m'.lookup z = some w → m.lookup z = some w) (sp : Split led (lawE y u) rst) : Weak Z ⟨m, led⟩ ⟨m', lawL y { u with LL := rst }⟩ := fun f s hs => by
  obtain ⟨h, tk, m1, c, e, F, lm, r⟩ := At.perm sp.perm hs
  exact ⟨h, tk, m1, c, e, F, fun z w hz => lm z w (hm z w hz), r⟩
section
variable {Z : Wd} {n : Fn} {f : Frm} {σ : St} {k : Nat}
/-- the turn's end: all is right, and the next turn may stand on it -/
theorem turn_end {y : LawK} {u : LawV} {i : Nat} {q : Str} {m : List (Str × SV)} {led : List SE} {p1 p2 p3 p4 p5 p6 p7 p8 p9 : Pos} {kk : Nat} {K : Fl → St → Prop} (O : Ok Z n f k) (hk : 6 ≤ k) (hr : n.cs.names.lookup (Str.ofString "_law_is_right") = some .globalImplicit)
    (hB : n.cs.names.lookup (Str.ofString "buffer") = some .cell) (hR : n.cs.names.lookup (Str.ofString "ring") = some .cell) (hM : n.cs.names.lookup (Str.ofString "model") = some .local) (c4 : n.cl.lookup (Str.ofString "buffer") = some y.c4) (c5 : n.cl.lookup (Str.ofString "ring") = some y.c5)
    (hm : ∀ z w, (lawM y u.Md).lookup z = some w → m.lookup z = some w) {rst : List SE} (sp : Split led (lawE y u) rst) (hsub : ∀ e ∈ u.LL, e ∈ rst) (I : LawI q y (i + 1) u) (hkk : 0 ≤ u.kk ∧ u.kk ≤ 20 + 10 * (i : Int)) (hK : ∀ τ, LawJ q y (i + 1) τ → K .next τ) :
    ExOk Z n f ⟨m, led⟩ [.If (.UnaryOp .Not (.Call (.Name (Str.ofString "_law_is_right") p1) [.Name (Str.ofString "buffer") p2, .Name (Str.ofString "ring") p3, .Name (Str.ofString "model") p4] [] p5) p6) [.Return (some (.Constant (.bool false) kk p7)) p8] [] p9] K := by
  refine ex_weak (lawL_weak hm sp) (ex_ifF2 (tst_not (tst_call (ev_call O hr rfl rfl rfl (args_pe O (.cons (.cel hB rfl c4 (by repeat' constructor)) (.cons (.cel hR rfl c5 (by repeat' constructor)) (.cons (.name rfl ?_) .nil))) (SpecC.call (right_spec (Md := u.Md) (Rg := u.Rg) I.inv) O hk (by repeat' constructor) ?_))))) (ex_nil (hK _ ⟨{ u with LL := rst }, rfl, I.more hsub, hkk.1, by have := hkk.2; show u.kk ≤ 10 + 10 * ((i + 1 : Nat) : Int); omega⟩)))
  · unfold nameOf; rw [hM]; rfl
  · rintro _ _ ⟨rfl, rfl⟩
    exact ⟨true, rfl, rfl, lawL_weak (fun _ _ h => h) (by repeat' constructor)⟩
end
noncomputable abbrev words : List SV := [.str (Str.ofString "push"), .str (Str.ofString "pop"), .str (Str.ofString "push"), .str (Str.ofString "set"), .str (Str.ofString "edit"), .str (Str.ofString "to mark"), .str (Str.ofString "narrow")]
abbrev lawN (fd : FuncData) (fa : Addr) (y : LawK) : Fn := ⟨fd.qualname, fd.scope, fa, .ref 613, [(Str.ofString "ring", y.c5), (Str.ofString "buffer", y.c4), (Str.ofString "many", y.c3), (Str.ofString "end", y.c2), (Str.ofString "start", y.c1)]⟩
abbrev lawQ (fd : FuncData) : Str := (envX fd.qualname fd.scope 0 0 .none []).qual ++ "<lambda>"
theorem te_ne {n : Fn} {σ : St} {l r : Expr} {pos : Pos} {a b : Str} (h1 : PE n σ l (.str a)) (h2 : PE n σ r (.str b)) (e : (a == b) = false) : TE n σ (.Compare l [.Eq] [r] pos) false := e ▸ .eqS h1 h2
theorem te_eq {n : Fn} {σ : St} {l r : Expr} {pos : Pos} {a : Str} (h1 : PE n σ l (.str a)) (h2 : PE n σ r (.str a)) : TE n σ (.Compare l [.Eq] [r] pos) true := (beq_self_eq_true a) ▸ .eqS h1 h2
/-- a turn, once its word and its place are drawn -/
def Branch (Z : Wd) (W : Str) : Prop := ∀ {fd : FuncData} {s1 s2 s3 s4 w1 w2 : Stmt} {tg it : Expr} {rest els tl : List Stmt} {p : Pos} {fa : Addr} {y : LawK} {f : Frm} {u : LawV} {i : Nat} {pl : Int},
  fdOf (Mine.hd.heap_39 Z.w.params) 614 = some fd → fd.body = .stmts (s1 :: s2 :: s3 :: s4 :: .For tg it (w1 :: w2 :: rest) els p :: tl) →
  Ok Z (lawN fd fa y) f 10 → f.base = f.h₀ → CodeHd f.h₀ 613 611 → y.js.length ≤ 63 → LawI (lawQ fd) y i u → i ≤ 12 → 0 ≤ u.kk ∧ u.kk ≤ 12 + 10 * (i : Int) → -1 ≤ pl ∧ pl < u.v.sz + 3 →
    ExOk Z (lawN fd fa y) f ⟨(Str.ofString "place", .int pl) :: (Str.ofString "word", .str W) :: lawM y u.Md, lawL y u⟩ rest fun fl τ' => (fl = .next ∨ fl = .cont) ∧ LawJ (lawQ fd) y (i + 1) τ'
def LocSub (A B : List (Str × SV)) : Prop := ∀ z w, A.lookup z = some w → B.lookup z = some w
theorem LocSub.nil {B : List (Str × SV)} : LocSub [] B := fun _ _ h => nomatch h
theorem LocSub.put {A B : List (Str × SV)} {k : Str} {v : SV} (hn : B.lookup k = some v) (h : LocSub A B) : LocSub ((k, v) :: A) B := fun z w hz => by
  rw [List.lookup_cons] at hz
  split at hz
  · rename_i e; rw [eq_of_beq e, hn]; exact hz
  · exact h z w hz
section
variable {Z : Wd}
theorem law_turn {fd : FuncData} {s1 s2 s3 s4 : Stmt} {tg it : Expr} {B els tl : List Stmt} {p : Pos} {fa : Addr} {y : LawK} {f : Frm} {u : LawV} {i : Nat} (b1 : Branch Z (Str.ofString "push")) (b2 : Branch Z (Str.ofString "pop")) (b3 : Branch Z (Str.ofString "set")) (b4 : Branch Z (Str.ofString "edit")) (b5 : Branch Z (Str.ofString "to mark")) (b6 : Branch Z (Str.ofString "narrow"))
    (hfd : fdOf (Mine.hd.heap_39 Z.w.params) 614 = some fd) (hb : fd.body = .stmts (s1 :: s2 :: s3 :: s4 :: .For tg it B els p :: tl))
    (O : Ok Z (lawN fd fa y) f 10) (hbase : f.base = f.h₀) (hC : CodeHd f.h₀ 613 611) (hjs : y.js.length ≤ 63) (I : LawI (lawQ fd) y i u) (hk : 0 ≤ u.kk ∧ u.kk ≤ 10 + 10 * (i : Int)) (hi : i ≤ 12) :
    ExOk Z (lawN fd fa y) f ⟨(Str.ofString "turn_here", .int i) :: lawM y u.Md, lawL y u⟩ B fun fl τ' => (fl = .next ∨ fl = .cont) ∧ LawJ (lawQ fd) y (i + 1) τ' := by
  have hfd0 := hfd
  have hb0 := hb
  have e : fdOf (Mine.hd.heap_39 Z.w.params) 614 = some _ := rfl
  rw [e] at hfd
  cases hfd
  cases hb
  have hg := I.inv.g
  have hsz := I.sz
  have hNi := I.N
  obtain ⟨v, Md, Rg, e1, e2, e3, ps, LL, kk, sd⟩ := u
  obtain ⟨x, D, ID, c1, c2, c3, c4, c5, js⟩ := y
  dsimp only at hg hk hsz hNi hjs
  refine ex_assign (ev_call O rfl rfl rfl rfl (args_ev (ev_pe O (by repeat' (first | constructor | omega)) (args_ev (ev_list (args_pe O (by repeat' (first | constructor | omega)) ⟨(Nat.le_of_ble_eq_true rfl), fun I0 => args_nilE (SpecC.call (pick_spec (vs := words) (k := kk) (sd := sd) (D := D) (C := ID) (ns := js) (by omega) hjs (Nat.le_of_ble_eq_true rfl) (Nat.le_of_ble_eq_true rfl)) O (by decide) (by repeat' constructor) ?_)⟩))))))
  rintro word _ ⟨sd1, k1, hw, rfl, rfl⟩
  refine as_loc O rfl ?_
  refine ex_assign (ev_sub O (ev_call O rfl rfl rfl rfl (args_ev (ev_pe O (by repeat' (first | constructor | omega)) (args_ev (ev_add O (ev_meth O (.cel rfl rfl rfl (by repeat' constructor)) (by repeat' constructor) rfl rfl rfl (args_nilE (SpecC.call (bsize_spec (N := v.N) (gs := v.gs) (ge := v.ge) (by omega)) O (by decide) (by repeat' constructor) ?_)))))))))
  rintro _ _ ⟨rfl, rfl⟩
  refine ⟨_, rfl, ev_pe O (by repeat' (first | constructor | omega)) ⟨_, rfl, args_nilE (SpecC.call (draw_spec (many := v.sz + 4) (k := kk + 1) (sd := sd1) (D := D) (C := ID) (ns := js) (by omega) hjs (by omega)) O (by decide) (by repeat' constructor) ?_)⟩⟩
  rintro _ _ ⟨d, sd2, k2, rfl, hd0, hd1, rfl, rfl⟩
  refine ⟨_, rfl, ev_pe O (by repeat' (first | constructor | omega)) ⟨_, rfl, as_loc O rfl ?_⟩⟩
  obtain ⟨W, rfl, hBr⟩ : ∃ W, word = .str W ∧ Branch Z W := by
    simp only [words, List.mem_cons, List.not_mem_nil, or_false] at hw
    rcases hw with h | h | h | h | h | h | h
    · exact ⟨_, h, b1⟩
    · exact ⟨_, h, b2⟩
    · exact ⟨_, h, b1⟩
    · exact ⟨_, h, b3⟩
    · exact ⟨_, h, b4⟩
    · exact ⟨_, h, b5⟩
    · exact ⟨_, h, b6⟩
  refine ex_weak (lawL_weak (y := ⟨x, D, ID, c1, c2, c3, c4, c5, js⟩) (u := ⟨v, Md, Rg, e1, e2, e3, ps, LL, kk + 1 + 1, sd2⟩) (m' := (Str.ofString "place", .int (d - 1)) :: (Str.ofString "word", .str W) :: lawM ⟨x, D, ID, c1, c2, c3, c4, c5, js⟩ Md) (show LocSub _ _ by repeat' (first | exact LocSub.nil | refine LocSub.put rfl ?_)) (by repeat' constructor)) (hBr hfd0 hb0 O hbase hC hjs (LawI.more (u := ⟨v, Md, Rg, e1, e2, e3, ps, LL, kk + 1 + 1, sd2⟩) ⟨I.inv, I.sz, I.N, I.i1, I.i2, I.i3, I.tr, I.t1, I.t2⟩ (by intro z hz; repeat (first | exact hz | exact List.mem_append_left _ hz | apply List.Mem.tail))) hi (by dsimp only; omega) (by show _ ∧ d - 1 < v.sz + 3; omega))
end
section
variable {Z : Wd}
theorem br_push : Branch Z (Str.ofString "push") := by
  intro fd s1 s2 s3 s4 w1 w2 tg it rest els tl p fa y f u i pl hfd hb O hbase hC hjs I hi hkk hpl
  have e : fdOf (Mine.hd.heap_39 Z.w.params) 614 = some _ := rfl
  rw [e] at hfd
  cases hfd
  cases hb
  clear e
  have hg := I.inv.g
  have hm0 := I.inv.m
  have hlen := I.inv.len
  have hNi := I.N
  have hsz := I.sz
  obtain ⟨v, Md, Rg, e1, e2, e3, ps, LL, kk, sd⟩ := u
  obtain ⟨x, D, ID, c1, c2, c3, c4, c5, js⟩ := y
  obtain ⟨RL0, pt, bv, zv, gs, ge, N, last0, k0, rs0⟩ := v
  dsimp only at hg hm0 hlen hkk hNi hsz
  refine ex_ifT O (te_eq (by repeat' (first | constructor | omega)) (by repeat' (first | constructor | omega))) ?_
  refine ex_expr (ev_call O rfl rfl rfl rfl (args_pe O (.cons (.cel rfl rfl rfl (by repeat' constructor)) (.cons (.cel rfl rfl rfl (by repeat' constructor)) (.cons (by repeat' (first | constructor | omega)) .nil))) (SpecC.call (push_spec I.inv) O (by decide) (by repeat' constructor) ?_)))
  rintro _ _ ⟨RL, last, k', rs, rfl, rfl, hI, hp, hps⟩
  have hp' : min (max pl 1) (N - ge + gs + 1) = k'.pos := hp.symm
  cases k0 with
  | none =>
    refine ex_assign (ev_call O rfl rfl rfl rfl (args_ev (ev_pe O (by repeat' (first | constructor | omega)) (args_ev (ev_pe O (by repeat' (first | constructor | omega)) (args_ev (ev_call O rfl rfl rfl rfl (args_ev (ev_pe O (by repeat' (first | constructor | omega)) (args_ev (ev_meth O (.cel rfl rfl rfl (by repeat' constructor)) (by repeat' constructor) rfl rfl rfl (args_nilE (SpecC.call (bsize_spec (N := N) (gs := gs) (ge := ge) (by omega)) O (by decide) (by repeat' constructor) ?_)))))))))))))
    rintro _ _ ⟨rfl, rfl⟩
    refine args_nilE (SpecC.call clipped_spec O (by decide) (by repeat' constructor) ?_)
    rintro _ _ ⟨rfl, rfl⟩
    refine args_nilE (SpecC.call (pushedN_spec (pl := rs0.map (·.pos))) O (by decide) (by repeat' constructor) ?_)
    rintro _ _ ⟨Md', Rg', rfl, rfl⟩
    have hps' : rs.map (·.pos) = rs0.map (·.pos) := hps
    rw [hp', ← hps']
    refine as_loc O rfl (ex_nilS ?_)
    exact turn_end (u := ⟨⟨RL, pt, bv, zv, gs, ge, N, last, some k', rs⟩, Md', Rg', e1, e2, e3, ps, LL, kk, sd⟩) (y := ⟨x, D, ID, c1, c2, c3, c4, c5, js⟩) O (by decide) rfl rfl rfl rfl rfl rfl (show LocSub _ _ by repeat' (first | exact LocSub.nil | refine LocSub.put rfl ?_)) (by repeat' constructor) (by intro z hz; repeat (first | exact hz | exact List.mem_append_left _ hz | apply List.Mem.tail)) ⟨hI, hsz, by dsimp only; omega, I.i1, I.i2, I.i3, I.tr, I.t1, I.t2⟩ (by dsimp only; omega) fun τ h => ⟨.inl rfl, h⟩
  | some q =>
    refine ex_assign (ev_call O rfl rfl rfl rfl (args_ev (ev_pe O (by repeat' (first | constructor | omega)) (args_ev (ev_pe O (by repeat' (first | constructor | omega)) (args_ev (ev_call O rfl rfl rfl rfl (args_ev (ev_pe O (by repeat' (first | constructor | omega)) (args_ev (ev_meth O (.cel rfl rfl rfl (by repeat' constructor)) (by repeat' constructor) rfl rfl rfl (args_nilE (SpecC.call (bsize_spec (N := N) (gs := gs) (ge := ge) (by omega)) O (by decide) (by repeat' constructor) ?_)))))))))))))
    rintro _ _ ⟨rfl, rfl⟩
    refine args_nilE (SpecC.call clipped_spec O (by decide) (by repeat' constructor) ?_)
    rintro _ _ ⟨rfl, rfl⟩
    refine args_nilE (SpecC.call (pushedS_spec (q := q.pos) (most := x.most) (pl := rs0.map (·.pos)) hm0.1 (by rw [List.length_map]; omega)) O (by decide) (by repeat' constructor) ?_)
    rintro _ _ ⟨Md', Rg', rfl, rfl⟩
    have hps' : (q.pos :: rs0.map (·.pos)).take x.most.toNat = rs.map (·.pos) := hps.symm
    rw [hp', hps']
    refine as_loc O rfl (ex_nilS ?_)
    exact turn_end (u := ⟨⟨RL, pt, bv, zv, gs, ge, N, last, some k', rs⟩, Md', Rg', e1, e2, e3, ps, LL, kk, sd⟩) (y := ⟨x, D, ID, c1, c2, c3, c4, c5, js⟩) O (by decide) rfl rfl rfl rfl rfl rfl (show LocSub _ _ by repeat' (first | exact LocSub.nil | refine LocSub.put rfl ?_)) (by repeat' constructor) (by intro z hz; repeat (first | exact hz | exact List.mem_append_left _ hz | apply List.Mem.tail)) ⟨hI, hsz, by dsimp only; omega, I.i1, I.i2, I.i3, I.tr, I.t1, I.t2⟩ (by dsimp only; omega) fun τ h => ⟨.inl rfl, h⟩
end
section
variable {Z : Wd}
theorem br_set : Branch Z (Str.ofString "set") := by
  intro fd s1 s2 s3 s4 w1 w2 tg it rest els tl p fa y f u i pl hfd hb O hbase hC hjs I hi hkk hpl
  have e : fdOf (Mine.hd.heap_39 Z.w.params) 614 = some _ := rfl
  rw [e] at hfd
  cases hfd
  cases hb
  clear e
  have hg := I.inv.g
  have hm0 := I.inv.m
  have hlen := I.inv.len
  have hNi := I.N
  have hsz := I.sz
  have hms := I.inv.ms_len
  obtain ⟨v, Md, Rg, e1, e2, e3, ps, LL, kk, sd⟩ := u
  obtain ⟨x, D, ID, c1, c2, c3, c4, c5, js⟩ := y
  obtain ⟨RL0, pt, bv, zv, gs, ge, N, last0, k0, rs0⟩ := v
  dsimp only at hg hm0 hlen hkk hNi hsz
  have h0 : ∀ q ∈ rs0, q.num ≠ 0 := fun q hq => by have := (I.inv.nums q hq).2; omega
  refine ex_ifF O (te_ne (by repeat' (first | constructor | omega)) (by repeat' (first | constructor | omega)) (by kernel_rfl)) (ex_ifT O (te_eq (by repeat' (first | constructor | omega)) (by repeat' (first | constructor | omega))) ?_)
  cases k0 with
  | none =>
    refine ex_expr (ev_call O rfl rfl rfl rfl (args_pe O (.cons (.cel rfl rfl rfl (by repeat' constructor)) (.cons (by repeat' (first | constructor | omega)) .nil)) (SpecC.call (set_spec (N := N) (gs := gs) (ge := ge) (k0 := none) (ot := rs0) (Nat.le_trans hms (by decide)) (by omega) h0 I.inv.num0) O (by decide) (by repeat' constructor) ?_)))
    rintro _ _ ⟨q, rfl, rfl, hq0, hq⟩
    have hI := I.inv.set hq0 hq
    have hp' : min (max pl 1) (N - ge + gs + 1) = q.pos := hq.symm
    refine ex_assign (ev_list (args_ev (ev_call O rfl rfl rfl rfl (args_ev (ev_pe O (by repeat' (first | constructor | omega)) (args_ev (ev_meth O (.cel rfl rfl rfl (by repeat' constructor)) (by repeat' constructor) rfl rfl rfl (args_nilE (SpecC.call (bsize_spec (N := N) (gs := gs) (ge := ge) (by omega)) O (by decide) (by repeat' constructor) ?_)))))))))
    rintro _ _ ⟨rfl, rfl⟩
    refine args_nilE (SpecC.call clipped_spec O (by decide) (by repeat' constructor) ?_)
    rintro _ _ ⟨rfl, rfl⟩
    refine args_ev (ev_pe O (.idx (by repeat' (first | constructor | omega)) (by repeat' constructor) (by repeat' (first | constructor | omega)) (by decide) (by decide) rfl) (args_nilE ⟨(Nat.le_of_ble_eq_true rfl), fun Md' => ?_⟩))
    rw [hp']
    refine as_loc O rfl (ex_nilS (ex_nilS ?_))
    exact turn_end (u := ⟨⟨RL0, pt, bv, zv, gs, ge, N, last0, some q, rs0⟩, Md', Rg, e1, e2, e3, ps, LL, kk, sd⟩) (y := ⟨x, D, ID, c1, c2, c3, c4, c5, js⟩) O (by decide) rfl rfl rfl rfl rfl rfl (show LocSub _ _ by repeat' (first | exact LocSub.nil | refine LocSub.put rfl ?_)) (by repeat' constructor) (by intro z hz; repeat (first | exact hz | exact List.mem_append_left _ hz | apply List.Mem.tail)) ⟨hI, hsz, by dsimp only; omega, I.i1, I.i2, I.i3, I.tr, I.t1, I.t2⟩ (by dsimp only; omega) fun τ h => ⟨.inl rfl, h⟩
  | some q0 =>
    refine ex_expr (ev_call O rfl rfl rfl rfl (args_pe O (.cons (.cel rfl rfl rfl (by repeat' constructor)) (.cons (by repeat' (first | constructor | omega)) .nil)) (SpecC.call (set_spec (N := N) (gs := gs) (ge := ge) (k0 := some q0) (ot := rs0) (Nat.le_trans hms (by decide)) (by omega) h0 I.inv.num0) O (by decide) (by repeat' constructor) ?_)))
    rintro _ _ ⟨q, rfl, rfl, hq0, hq⟩
    have hI := I.inv.set hq0 hq
    have hp' : min (max pl 1) (N - ge + gs + 1) = q.pos := hq.symm
    refine ex_assign (ev_list (args_ev (ev_call O rfl rfl rfl rfl (args_ev (ev_pe O (by repeat' (first | constructor | omega)) (args_ev (ev_meth O (.cel rfl rfl rfl (by repeat' constructor)) (by repeat' constructor) rfl rfl rfl (args_nilE (SpecC.call (bsize_spec (N := N) (gs := gs) (ge := ge) (by omega)) O (by decide) (by repeat' constructor) ?_)))))))))
    rintro _ _ ⟨rfl, rfl⟩
    refine args_nilE (SpecC.call clipped_spec O (by decide) (by repeat' constructor) ?_)
    rintro _ _ ⟨rfl, rfl⟩
    refine args_ev (ev_pe O (.idx (by repeat' (first | constructor | omega)) (by repeat' constructor) (by repeat' (first | constructor | omega)) (by decide) (by decide) rfl) (args_nilE ⟨(Nat.le_of_ble_eq_true rfl), fun Md' => ?_⟩))
    rw [hp']
    refine as_loc O rfl (ex_nilS (ex_nilS ?_))
    exact turn_end (u := ⟨⟨RL0, pt, bv, zv, gs, ge, N, last0, some q, rs0⟩, Md', Rg, e1, e2, e3, ps, LL, kk, sd⟩) (y := ⟨x, D, ID, c1, c2, c3, c4, c5, js⟩) O (by decide) rfl rfl rfl rfl rfl rfl (show LocSub _ _ by repeat' (first | exact LocSub.nil | refine LocSub.put rfl ?_)) (by repeat' constructor) (by intro z hz; repeat (first | exact hz | exact List.mem_append_left _ hz | apply List.Mem.tail)) ⟨hI, hsz, by dsimp only; omega, I.i1, I.i2, I.i3, I.tr, I.t1, I.t2⟩ (by dsimp only; omega) fun τ h => ⟨.inl rfl, h⟩
theorem br_narrow : Branch Z (Str.ofString "narrow") := by
  intro fd s1 s2 s3 s4 w1 w2 tg it rest els tl p fa y f u i pl hfd hb O hbase hC hjs I hi hkk hpl
  have e : fdOf (Mine.hd.heap_39 Z.w.params) 614 = some _ := rfl
  rw [e] at hfd
  cases hfd
  cases hb
  clear e
  have hg := I.inv.g
  have hm0 := I.inv.m
  have hlen := I.inv.len
  have hNi := I.N
  have hsz := I.sz
  have hms := I.inv.ms_len
  obtain ⟨v, Md, Rg, e1, e2, e3, ps, LL, kk, sd⟩ := u
  obtain ⟨x, D, ID, c1, c2, c3, c4, c5, js⟩ := y
  obtain ⟨RL0, pt, bv, zv, gs, ge, N, last0, k0, rs0⟩ := v
  dsimp only at hg hm0 hlen hkk hNi hsz
  have hsz2 : 4 ≤ N - ge + gs := hsz
  refine ex_ifF O (te_ne (by repeat' (first | constructor | omega)) (by repeat' (first | constructor | omega)) (by kernel_rfl)) (ex_ifF O (te_ne (by repeat' (first | constructor | omega)) (by repeat' (first | constructor | omega)) (by kernel_rfl)) (ex_ifF O (te_ne (by repeat' (first | constructor | omega)) (by repeat' (first | constructor | omega)) (by kernel_rfl)) (ex_ifF O (te_ne (by repeat' (first | constructor | omega)) (by repeat' (first | constructor | omega)) (by kernel_rfl)) (ex_ifT O (te_eq (by repeat' (first | constructor | omega)) (by repeat' (first | constructor | omega))) ?_))))
  refine ex_expr (ev_call O rfl rfl rfl rfl (args_ev (ev_pe O (.cel rfl rfl rfl (by repeat' constructor)) (args_ev (ev_pe O (by repeat' (first | constructor | omega)) (args_ev (ev_meth O (.cel rfl rfl rfl (by repeat' constructor)) (by repeat' constructor) rfl rfl rfl (args_nilE (SpecC.call (bsize_spec (N := N) (gs := gs) (ge := ge) (by omega)) O (by decide) (by repeat' constructor) ?_)))))))))
  rintro _ _ ⟨rfl, rfl⟩
  refine args_nilE (SpecC.call (narrow_spec (N := N) (gs := gs) (ge := ge) (a := 2) (b := N - ge + gs) (by omega) (by omega) (by omega)) O (by decide) (by repeat' constructor) ?_)
  rintro _ _ ⟨pt', rfl, rfl⟩
  refine ex_nilS (ex_nilS (ex_nilS (ex_nilS (ex_nilS ?_))))
  exact turn_end (u := ⟨⟨RL0, pt', min 2 (N - ge + gs), max 2 (N - ge + gs), gs, ge, N, last0, k0, rs0⟩, Md, Rg, e1, e2, e3, ps, LL, kk, sd⟩) (y := ⟨x, D, ID, c1, c2, c3, c4, c5, js⟩) O (by decide) rfl rfl rfl rfl rfl rfl (show LocSub _ _ by repeat' (first | exact LocSub.nil | refine LocSub.put rfl ?_)) (by repeat' constructor) (by intro z hz; repeat (first | exact hz | exact List.mem_append_left _ hz | apply List.Mem.tail)) ⟨I.inv.narrowed hsz pt', hsz, by dsimp only; omega, I.i1, I.i2, I.i3, I.tr, I.t1, I.t2⟩ (by dsimp only; omega) fun τ h => ⟨.inl rfl, h⟩
end
section
variable {Z : Wd}
theorem br_pop : Branch Z (Str.ofString "pop") := by
  intro fd s1 s2 s3 s4 w1 w2 tg it rest els tl p fa y f u i pl hfd hb O hbase hC hjs I hi hkk hpl
  have e : fdOf (Mine.hd.heap_39 Z.w.params) 614 = some _ := rfl
  rw [e] at hfd
  cases hfd
  cases hb
  clear e
  have hg := I.inv.g
  have hm0 := I.inv.m
  have hlen := I.inv.len
  have hNi := I.N
  have hsz := I.sz
  have hms := I.inv.ms_len
  obtain ⟨v, Md, Rg, e1, e2, e3, ps, LL, kk, sd⟩ := u
  obtain ⟨x, D, ID, c1, c2, c3, c4, c5, js⟩ := y
  obtain ⟨RL0, pt, bv, zv, gs, ge, N, last0, k0, rs0⟩ := v
  dsimp only at hg hm0 hlen hkk hNi hsz
  refine ex_ifF O (te_ne (by repeat' (first | constructor | omega)) (by repeat' (first | constructor | omega)) (by kernel_rfl)) (ex_ifF O (te_ne (by repeat' (first | constructor | omega)) (by repeat' (first | constructor | omega)) (by kernel_rfl)) (ex_ifT O (te_eq (by repeat' (first | constructor | omega)) (by repeat' (first | constructor | omega))) ?_))
  cases k0 with
  | none =>
    refine ex_assign (ev_call O rfl rfl rfl rfl (args_pe O (by repeat' (first | constructor | omega)) (SpecC.call (poppedN_spec (pl := rs0.map (·.pos))) O (by decide) (by repeat' constructor) ?_)))
    rintro _ _ ⟨T, P, E, rfl, rfl⟩
    refine as_lst2 (by repeat' constructor) (as_loc O rfl (as_loc O rfl ?_))
    refine ex_ifG (tst_neT O (by decide) (ev_call O rfl rfl rfl rfl (args_ev (ev_weak (Weak.perm (Split.perm (ex := .raw 611 (tabObj ps) :: [.list P [.str (Str.ofString "error"), .ref E], .list E [.str errT], .cell c4 (.ref x.B), .cell c5 (.ref x.RG), e1, e2, e3, .list D [.ref ID, .int kk, .int sd], .list ID (js.map .int), .list Md [.none, .ref Rg], .list Rg ((rs0.map (·.pos)).map .int), bufE x.B x.G x.M x.LI pt bv zv .none, mksE x.M x.R, .rows x.R (rs0.map Mark.key), .marks x.B rs0, gapE x.G x.c gs ge, .anyL x.c N, ringE x.RG RL0 x.most last0, .list RL0 (rs0.map fun q => .ref q.a), .list x.LI []]) (r := .list T [.ref P, .ref Md] :: LL) ?_)) (ev_lam (l := [.list P [.str (Str.ofString "error"), .ref E], .list E [.str errT], .cell c4 (.ref x.B), .cell c5 (.ref x.RG), e1, e2, e3, .list D [.ref ID, .int kk, .int sd], .list ID (js.map .int), .list Md [.none, .ref Rg], .list Rg ((rs0.map (·.pos)).map .int), bufE x.B x.G x.M x.LI pt bv zv .none, mksE x.M x.R, .rows x.R (rs0.map Mark.key), .marks x.B rs0, gapE x.G x.c gs ge, .anyL x.c N, ringE x.RG RL0 x.most last0, .list RL0 (rs0.map fun q => .ref q.a), .list x.LI []] ++ [.list T [.ref P, .ref Md]]) O rfl hC rfl I.tr I.t1 rfl fun F pm ctv c' oc vs t ps' LL' hd hv hm ht' hT hoth => ?_)))))
    · exact (by repeat' constructor)
    refine args_nilE (call_toldX O hbase (by decide) (lam_specX (B := x.B) (G := x.G) (M := x.M) (LI := x.LI) (RG := x.RG) (pt := pt) (bv := bv) (zv := zv) popX hd hv rfl (.head _) (.tail _ (.tail _ (List.mem_append_right _ hm))) (by repeat' constructor) (by repeat' constructor) (by repeat' constructor) rfl rfl rfl rfl (by decide) rfl rfl rfl rfl rfl rfl) (.head _) fun D2 ls => ?_)
    refine ⟨D2, rfl, ev_pe O (by repeat' (first | constructor | omega)) ⟨P, errD, rfl, .err (by repeat' constructor) (by repeat' constructor), .err (by repeat' constructor) (by repeat' constructor), fun h => (nomatch h), fun _ => ex_nilS (ex_nilS (ex_nilS (ex_nilS ?_)))⟩⟩
    exact turn_end (u := ⟨⟨RL0, pt, bv, zv, gs, ge, N, last0, none, rs0⟩, Md, Rg, e1, e2, e3, ps', LL', kk, sd⟩) (y := ⟨x, D, ID, c1, c2, c3, c4, c5, js⟩) O (by decide) rfl rfl rfl rfl rfl rfl (show LocSub _ _ by repeat' (first | exact LocSub.nil | refine LocSub.put rfl ?_)) (by repeat' constructor) (by intro z hz; repeat (first | exact hz | exact List.mem_append_left _ hz | apply List.Mem.tail)) ⟨I.inv, hsz, by dsimp only; omega, I.i1, I.i2, I.i3, ht', hT, hoth 392 34 (by decide) I.t2⟩ (by dsimp only; omega) fun τ h => ⟨.inl rfl, h⟩
  | some q =>
    refine ex_assign (ev_call O rfl rfl rfl rfl (args_pe O (by repeat' (first | constructor | omega)) (SpecC.call (poppedS_spec (q := q.pos) (most := x.most) (pl := rs0.map (·.pos)) (by rw [List.length_map]; omega)) O (by decide) (by repeat' constructor) ?_)))
    rintro _ _ ⟨T, P, Md', Rg', q', pl', rfl, rfl, hq', hpl'⟩
    refine as_lst2 (by repeat' constructor) (as_loc O rfl (as_loc O rfl ?_))
    refine ex_ifG (tst_neT O (by decide) (ev_call O rfl rfl rfl rfl (args_ev (ev_weak (Weak.perm (Split.perm (ex := .raw 611 (tabObj ps) :: ([.list P [.str (Str.ofString "told"), .int q.pos], .list T [.ref P, .ref Md'], .cell c4 (.ref x.B), .cell c5 (.ref x.RG), e1, e2, e3, .list D [.ref ID, .int kk, .int sd], .list ID (js.map .int), .list Md' [.int q', .ref Rg'], .list Rg' (pl'.map .int)] ++ sysL x ⟨RL0, pt, bv, zv, gs, ge, N, last0, some q, rs0⟩)) (r := LL) (by repeat' constructor))) (ev_lam (l := ([.list P [.str (Str.ofString "told"), .int q.pos], .list T [.ref P, .ref Md'], .cell c4 (.ref x.B), .cell c5 (.ref x.RG), e1, e2, e3, .list D [.ref ID, .int kk, .int sd], .list ID (js.map .int), .list Md' [.int q', .ref Rg'], .list Rg' (pl'.map .int)] ++ sysL x ⟨RL0, pt, bv, zv, gs, ge, N, last0, some q, rs0⟩)) O rfl hC rfl I.tr I.t1 rfl fun F pm ctv c' oc vs t ps' LL' hd hv hm ht' hT hoth => ?_)))))
    refine args_nilE (SpecC.call (told_spec (lam_spec (c4 := c4) (c5 := c5) (pop_spec I.inv (k := q) rfl) hd hv rfl (.head _) (.tail _ (.tail _ (List.mem_append_right _ hm))) (by repeat' constructor) (by repeat' constructor) (by repeat' constructor) rfl rfl rfl rfl (by decide) rfl rfl rfl rfl rfl rfl) (.head _)) O (by decide) (Split.all _) ?_)
    rintro _ _ ⟨D2, w, _, rfl, ⟨_, ⟨rfl, RL, last, k', rs, rfl, hI, hp, hps⟩, rfl⟩, rfl⟩
    obtain ⟨rfl, rfl⟩ : q' = k'.pos ∧ pl' = rs.map (·.pos) := by
      cases rs0 with
      | nil => exact ⟨hq'.trans hp.symm, hpl'.trans hps.symm⟩
      | cons z r => exact ⟨hq'.trans hp.symm, hpl'.trans hps.symm⟩
    refine ⟨D2, rfl, ev_pe O (by repeat' (first | constructor | omega)) ⟨P, toldD q.pos, rfl, .told (by repeat' constructor), .told (by repeat' constructor), fun h => (nomatch h), fun _ => ex_nilS (ex_nilS (ex_nilS (ex_nilS ?_)))⟩⟩
    exact turn_end (u := ⟨⟨RL, pt, bv, zv, gs, ge, N, last, some k', rs⟩, Md', Rg', e1, e2, e3, ps', LL', kk, sd⟩) (y := ⟨x, D, ID, c1, c2, c3, c4, c5, js⟩) O (by decide) rfl rfl rfl rfl rfl rfl (show LocSub _ _ by repeat' (first | exact LocSub.nil | refine LocSub.put rfl ?_)) (by repeat' constructor) (by intro z hz; repeat (first | exact hz | exact List.mem_append_left _ hz | apply List.Mem.tail)) ⟨hI, hsz, by dsimp only; omega, I.i1, I.i2, I.i3, ht', hT, hoth 392 34 (by decide) I.t2⟩ (by dsimp only; omega) fun τ h => ⟨.inl rfl, h⟩
end
section
variable {Z : Wd}
theorem br_tomark : Branch Z (Str.ofString "to mark") := by
  intro fd s1 s2 s3 s4 w1 w2 tg it rest els tl p fa y f u i pl hfd hb O hbase hC hjs I hi hkk hpl
  have e : fdOf (Mine.hd.heap_39 Z.w.params) 614 = some _ := rfl
  rw [e] at hfd
  cases hfd
  cases hb
  clear e
  have hg := I.inv.g
  have hm0 := I.inv.m
  have hlen := I.inv.len
  have hNi := I.N
  have hsz := I.sz
  have hms := I.inv.ms_len
  obtain ⟨v, Md, Rg, e1, e2, e3, ps, LL, kk, sd⟩ := u
  obtain ⟨x, D, ID, c1, c2, c3, c4, c5, js⟩ := y
  obtain ⟨RL0, pt, bv, zv, gs, ge, N, last0, k0, rs0⟩ := v
  dsimp only at hg hm0 hlen hkk hNi hsz
  have ne : (Str.ofString "error" == Str.ofString "told") = false := by kernel_rfl
  refine ex_ifF O (te_ne (by repeat' (first | constructor | omega)) (by repeat' (first | constructor | omega)) (by kernel_rfl)) (ex_ifF O (te_ne (by repeat' (first | constructor | omega)) (by repeat' (first | constructor | omega)) (by kernel_rfl)) (ex_ifF O (te_ne (by repeat' (first | constructor | omega)) (by repeat' (first | constructor | omega)) (by kernel_rfl)) (ex_ifT O (te_eq (by repeat' (first | constructor | omega)) (by repeat' (first | constructor | omega))) ?_)))
  cases k0 with
  | none =>
    refine ex_assign (ev_call O rfl rfl rfl rfl (args_pe O (by repeat' (first | constructor | omega)) (SpecC.call (poppedN_spec (pl := rs0.map (·.pos))) O (by decide) (by repeat' constructor) ?_)))
    rintro _ _ ⟨T, P, E, rfl, rfl⟩
    refine as_lst2 (by repeat' constructor) (as_loc O rfl (as_loc O rfl ?_))
    refine ex_assign (ev_call O rfl rfl rfl rfl (args_ev (ev_weak (Weak.perm (Split.perm (ex := .raw 611 (tabObj ps) :: ([.list P [.str (Str.ofString "error"), .ref E], .list E [.str errT], .list T [.ref P, .ref Md], .cell c4 (.ref x.B), .cell c5 (.ref x.RG), e1, e2, e3, .list D [.ref ID, .int kk, .int sd], .list ID (js.map .int), .list Md [.none, .ref Rg], .list Rg ((rs0.map (·.pos)).map .int)] ++ sysL x ⟨RL0, pt, bv, zv, gs, ge, N, last0, none, rs0⟩)) (r := LL) (by repeat' constructor))) (ev_lam (l := ([.list P [.str (Str.ofString "error"), .ref E], .list E [.str errT], .list T [.ref P, .ref Md], .cell c4 (.ref x.B), .cell c5 (.ref x.RG), e1, e2, e3, .list D [.ref ID, .int kk, .int sd], .list ID (js.map .int), .list Md [.none, .ref Rg], .list Rg ((rs0.map (·.pos)).map .int)] ++ sysL x ⟨RL0, pt, bv, zv, gs, ge, N, last0, none, rs0⟩)) O rfl hC rfl I.tr I.t2 rfl fun F pm ctv c' oc vs t ps' LL' hd hv hm ht' hT hoth => ?_))))
    refine args_nilE (call_toldX O hbase (by decide) (lam_specX (B := x.B) (G := x.G) (M := x.M) (LI := x.LI) (RG := x.RG) (pt := pt) (bv := bv) (zv := zv) poptoX hd hv rfl (.head _) (.tail _ (.tail _ (List.mem_append_right _ hm))) (by repeat' constructor) (by repeat' constructor) (by repeat' constructor) rfl rfl rfl rfl (by decide) rfl rfl rfl rfl rfl rfl) (.head _) fun D2 ls => ?_)
    refine as_loc O rfl ?_
    refine ex_ifG (tst_or (tst_neB O (ev_eqS O (.idx (by repeat' (first | constructor | omega)) (by repeat' constructor) (by repeat' (first | constructor | omega)) (by decide) (by decide) rfl) (by repeat' (first | constructor | omega)) ⟨_, rfl, ev_eqS O (.idx (by repeat' (first | constructor | omega)) (by repeat' constructor) (by repeat' (first | constructor | omega)) (by decide) (by decide) rfl) (by repeat' (first | constructor | omega)) ⟨_, rfl, fun h => ?_, fun _ => ?_⟩⟩)))
    · rw [ne] at h; cases h
    refine tst_and (tst_neS O (.idx (by repeat' (first | constructor | omega)) (by repeat' constructor) (by repeat' (first | constructor | omega)) (by decide) (by decide) rfl) (by repeat' (first | constructor | omega)) ⟨fun h => ?_, fun _ => ?_⟩)
    · simp [bne, ne] at h
    refine tst_neT O (by decide) (ev_pe O (by repeat' (first | constructor | omega)) ⟨D2, rfl, ev_pe O (by repeat' (first | constructor | omega)) ⟨P, errD, rfl, .err (by repeat' constructor) (by repeat' constructor), .err (by repeat' constructor) (by repeat' constructor), fun h => (nomatch h), fun _ => ex_nilS ?_⟩⟩)
    refine ex_ifG (tst_and (tst_te (b := false) O (te_ne (.idx (by repeat' (first | constructor | omega)) (by repeat' constructor) (by repeat' (first | constructor | omega)) (by decide) (by decide) rfl) (by repeat' (first | constructor | omega)) ne) ⟨fun _ => ⟨fun h => (nomatch h), fun _ => ex_nilS (ex_nilS (ex_nilS (ex_nilS (ex_nilS ?_))))⟩, fun h => (nomatch h)⟩))
    exact turn_end (u := ⟨⟨RL0, pt, bv, zv, gs, ge, N, last0, none, rs0⟩, Md, Rg, e1, e2, e3, ps', LL', kk, sd⟩) (y := ⟨x, D, ID, c1, c2, c3, c4, c5, js⟩) O (by decide) rfl rfl rfl rfl rfl rfl (show LocSub _ _ by repeat' (first | exact LocSub.nil | refine LocSub.put rfl ?_)) (by repeat' constructor) (by intro z hz; repeat (first | exact hz | exact List.mem_append_left _ hz | apply List.Mem.tail)) ⟨I.inv, hsz, by dsimp only; omega, I.i1, I.i2, I.i3, ht', hoth 388 25 (by decide) I.t1, hT⟩ (by dsimp only; omega) fun τ h => ⟨.inl rfl, h⟩
  | some q =>
    refine ex_assign (ev_call O rfl rfl rfl rfl (args_pe O (by repeat' (first | constructor | omega)) (SpecC.call (poppedS_spec (q := q.pos) (most := x.most) (pl := rs0.map (·.pos)) (by rw [List.length_map]; omega)) O (by decide) (by repeat' constructor) ?_)))
    rintro _ _ ⟨T, P, Md', Rg', q', pl', rfl, rfl, hq', hpl'⟩
    refine as_lst2 (by repeat' constructor) (as_loc O rfl (as_loc O rfl ?_))
    refine ex_assign (ev_call O rfl rfl rfl rfl (args_ev (ev_weak (Weak.perm (Split.perm (ex := .raw 611 (tabObj ps) :: ([.list P [.str (Str.ofString "told"), .int q.pos], .list T [.ref P, .ref Md'], .cell c4 (.ref x.B), .cell c5 (.ref x.RG), e1, e2, e3, .list D [.ref ID, .int kk, .int sd], .list ID (js.map .int), .list Md' [.int q', .ref Rg'], .list Rg' (pl'.map .int)] ++ sysL x ⟨RL0, pt, bv, zv, gs, ge, N, last0, some q, rs0⟩)) (r := LL) (by repeat' constructor))) (ev_lam (l := ([.list P [.str (Str.ofString "told"), .int q.pos], .list T [.ref P, .ref Md'], .cell c4 (.ref x.B), .cell c5 (.ref x.RG), e1, e2, e3, .list D [.ref ID, .int kk, .int sd], .list ID (js.map .int), .list Md' [.int q', .ref Rg'], .list Rg' (pl'.map .int)] ++ sysL x ⟨RL0, pt, bv, zv, gs, ge, N, last0, some q, rs0⟩)) O rfl hC rfl I.tr I.t2 rfl fun F pm ctv c' oc vs t ps' LL' hd hv hm ht' hT hoth => ?_))))
    refine args_nilE (SpecC.call (told_spec (lam_spec (c4 := c4) (c5 := c5) (popto_spec I.inv (k := q) rfl) hd hv rfl (.head _) (.tail _ (.tail _ (List.mem_append_right _ hm))) (by repeat' constructor) (by repeat' constructor) (by repeat' constructor) rfl rfl rfl rfl (by decide) rfl rfl rfl rfl rfl rfl) (.head _)) O (by decide) (Split.all _) ?_)
    rintro _ _ ⟨D2, w, _, rfl, ⟨_, ⟨rfl, RL, last, k', rs, rfl, hI, hp, hps⟩, rfl⟩, rfl⟩
    obtain ⟨rfl, rfl⟩ : q' = k'.pos ∧ pl' = rs.map (·.pos) := by
      cases rs0 with
      | nil => exact ⟨hq'.trans hp.symm, hpl'.trans hps.symm⟩
      | cons z r => exact ⟨hq'.trans hp.symm, hpl'.trans hps.symm⟩
    refine as_loc O rfl ?_
    refine ex_ifG (tst_or (tst_neB O (ev_eqS O (.idx (by repeat' (first | constructor | omega)) (by repeat' constructor) (by repeat' (first | constructor | omega)) (by decide) (by decide) rfl) (by repeat' (first | constructor | omega)) ⟨_, rfl, ev_eqS O (.idx (by repeat' (first | constructor | omega)) (by repeat' constructor) (by repeat' (first | constructor | omega)) (by decide) (by decide) rfl) (by repeat' (first | constructor | omega)) ⟨_, rfl, fun h => ?_, fun _ => ?_⟩⟩)))
    · simp at h
    refine tst_and (tst_neS O (.idx (by repeat' (first | constructor | omega)) (by repeat' constructor) (by repeat' (first | constructor | omega)) (by decide) (by decide) rfl) (by repeat' (first | constructor | omega)) ⟨fun _ => ⟨fun h => (nomatch h), fun _ => ex_nilS ?_⟩, fun h => ?_⟩)
    rotate_left
    · simp at h
    refine ex_ifG (tst_and (tst_te (b := true) O (te_eq (.idx (by repeat' (first | constructor | omega)) (by repeat' constructor) (by repeat' (first | constructor | omega)) (by decide) (by decide) rfl) (by repeat' (first | constructor | omega))) ⟨fun h => (nomatch h), fun _ => ?_⟩))
    refine tst_neI O (ev_pe O (.attrN (.cel rfl rfl rfl (by repeat' constructor)) (by repeat' constructor) rfl rfl) ⟨_, rfl, ev_pe O (.min rfl (.max rfl (.idx (by repeat' (first | constructor | omega)) (by repeat' constructor) (by repeat' (first | constructor | omega)) (by decide) (by decide) rfl) (.attrN (.cel rfl rfl rfl (by repeat' constructor)) (by repeat' constructor) rfl rfl)) (.attrN (.cel rfl rfl rfl (by repeat' constructor)) (by repeat' constructor) rfl rfl)) ⟨_, rfl, fun h => ?_, fun _ => ex_nilS (ex_nilS (ex_nilS (ex_nilS (ex_nilS ?_))))⟩⟩)
    · simp at h
    exact turn_end (u := ⟨⟨RL, min (max q.pos bv) zv, bv, zv, gs, ge, N, last, some k', rs⟩, Md', Rg', e1, e2, e3, ps', LL', kk, sd⟩) (y := ⟨x, D, ID, c1, c2, c3, c4, c5, js⟩) O (by decide) rfl rfl rfl rfl rfl rfl (show LocSub _ _ by repeat' (first | exact LocSub.nil | refine LocSub.put rfl ?_)) (by repeat' constructor) (by intro z hz; repeat (first | exact hz | exact List.mem_append_left _ hz | apply List.Mem.tail)) ⟨hI.pt _, hsz, by dsimp only; omega, I.i1, I.i2, I.i3, ht', hoth 388 25 (by decide) I.t1, hT⟩ (by dsimp only; omega) fun τ h => ⟨.inl rfl, h⟩
end
theorem fD_id {st : Int} : ∀ q : Mark, q.mv (fD st st) = q := fun q => by
  obtain ⟨a, n, p⟩ := q
  show (⟨a, n, fD st st p⟩ : Mark) = _
  have : fD st st p = p := by unfold fD; split <;> (try split) <;> omega
  rw [this]
theorem mv_mv {st en W : Int} {ms : List Mark} : (ms.map (Mark.mv (fD st en))).map (Mark.mv (fI st (st + W))) = ms.map (Mark.mv (gm st en W)) := by rw [List.map_map]; rfl
theorem Weak.locs {Z : Wd} {m m' : List (Str × SV)} {l : List SE} (h : LocSub m' m) : Weak Z ⟨m, l⟩ ⟨m', l⟩ := fun f s hs => by
  obtain ⟨g, tk, m1, c, e, F, lm, r⟩ := hs
  exact ⟨g, tk, m1, c, e, F, fun z w hz => lm z w (h z w hz), r⟩
theorem take_stepI {l : List Int} {i : Nat} {q : Int} (h : l[i]? = some q) : l.take (i + 1) = l.take i ++ [q] := by rw [List.take_add_one, h]; rfl
theorem Weak.take {Z : Wd} {m : List (Str × SV)} {e : SE} {l r : List SE} (T : Take e l r) : Weak Z ⟨m, l⟩ ⟨m, e :: r⟩ := Weak.perm T.perm
section
variable {Z : Wd}
theorem movedM_spec {k0 : Option Mark} {st en W : Int} (hse : st ≤ en) : SpecC Z 1 590 [mpOf k0, .int st, .int en, .int W] [] (fun r ex' => r = mpOf (k0.map (Mark.mv (gm st en W))) ∧ ex' = []) := by
  cases k0 with
  | none => exact movedN_spec
  | some q => exact movedI_spec hse
theorem br_edit : Branch Z (Str.ofString "edit") := by
  intro fd s1 s2 s3 s4 w1 w2 tg it rest els tl p fa y f u i pl hfd hb O hbase hC hjs I hi hkk hpl
  have e : fdOf (Mine.hd.heap_39 Z.w.params) 614 = some _ := rfl
  rw [e] at hfd
  cases hfd
  cases hb
  clear e
  have hg := I.inv.g
  have hm0 := I.inv.m
  have hlen := I.inv.len
  have hNi := I.N
  have hsz := I.sz
  have hms := I.inv.ms_len
  obtain ⟨v, Md, Rg, e1, e2, e3, ps, LL, kk, sd⟩ := u
  obtain ⟨x, D, ID, c1, c2, c3, c4, c5, js⟩ := y
  obtain ⟨RL0, pt, bv, zv, gs, ge, N, last0, k0, rs0⟩ := v
  dsimp only at hg hm0 hlen hkk hNi hsz
  have hsz2 : 4 ≤ N - ge + gs := hsz
  have hnd := I.inv.ms_nd
  have hpl2 : -1 ≤ pl ∧ pl < N - ge + gs + 3 := hpl
  refine ex_ifF O (te_ne (by repeat' (first | constructor | omega)) (by repeat' (first | constructor | omega)) (by kernel_rfl)) (ex_ifF O (te_ne (by repeat' (first | constructor | omega)) (by repeat' (first | constructor | omega)) (by kernel_rfl)) (ex_ifF O (te_ne (by repeat' (first | constructor | omega)) (by repeat' (first | constructor | omega)) (by kernel_rfl)) (ex_ifF O (te_ne (by repeat' (first | constructor | omega)) (by repeat' (first | constructor | omega)) (by kernel_rfl)) (ex_ifF O (te_ne (by repeat' (first | constructor | omega)) (by repeat' (first | constructor | omega)) (by kernel_rfl)) ?_))))
  refine ex_expr (ev_call O rfl rfl rfl rfl (args_pe O (.cons (.cel rfl rfl rfl (by repeat' constructor)) .nil) (SpecC.call (widen_spec' (N := N) (gs := gs) (ge := ge) (by omega)) O (by decide) (by repeat' constructor) ?_)))
  rintro _ _ ⟨rfl, rfl⟩
  refine ex_assign (ev_call O rfl rfl rfl rfl (args_ev (ev_pe O (by repeat' (first | constructor | omega)) (args_ev (ev_meth O (.cel rfl rfl rfl (by repeat' constructor)) (by repeat' constructor) rfl rfl rfl (args_nilE (SpecC.call (bsize_spec (N := N) (gs := gs) (ge := ge) (by omega)) O (by decide) (by repeat' constructor) ?_)))))))
  rintro _ _ ⟨rfl, rfl⟩
  refine args_nilE (SpecC.call clipped_spec O (by decide) (by repeat' constructor) ?_)
  rintro _ _ ⟨rfl, rfl⟩
  refine as_cellA O I.i1 rfl rfl (by repeat' constructor) ?_
  obtain ⟨st, hst⟩ : ∃ st, st = min (max pl 1) (N - ge + gs + 1) := ⟨_, rfl⟩
  rw [← hst]
  refine ex_assign (ev_min O rfl rfl (ev_add O (ev_pe O (.cel rfl rfl rfl (by repeat' constructor)) ⟨_, rfl, ev_call O rfl rfl rfl rfl (args_pe O (by repeat' (first | constructor | omega)) (SpecC.call (draw_spec (many := 3) (k := kk) (sd := sd) (D := D) (C := ID) (ns := js) (by omega) hjs (by omega)) O (by decide) (by repeat' constructor) ?_))⟩)))
  rintro _ _ ⟨d, sd1, k1, rfl, hd0, hd1, rfl, rfl⟩
  refine ⟨_, rfl, _, rfl, ev_add O (ev_meth O (.cel rfl rfl rfl (by repeat' constructor)) (by repeat' constructor) rfl rfl rfl (args_nilE (SpecC.call (bsize_spec (N := N) (gs := gs) (ge := ge) (by omega)) O (by decide) (by repeat' constructor) ?_)))⟩
  rintro _ _ ⟨rfl, rfl⟩
  refine ⟨_, rfl, ev_pe O (by repeat' (first | constructor | omega)) ⟨_, rfl, _, rfl, as_cellA O I.i2 rfl rfl (by repeat' constructor) ?_⟩⟩
  obtain ⟨en, hen⟩ : ∃ en, en = min (st + d) (N - ge + gs + 1) := ⟨_, rfl⟩
  rw [← hen]
  refine ex_assign (ev_add O (ev_pe O (by repeat' (first | constructor | omega)) ⟨_, rfl, ev_call O rfl rfl rfl rfl (args_pe O (by repeat' (first | constructor | omega)) (SpecC.call (draw_spec (many := 2) (k := kk + 1) (sd := sd1) (D := D) (C := ID) (ns := js) (by omega) hjs (by omega)) O (by decide) (by repeat' constructor) ?_))⟩))
  rintro _ _ ⟨d2, sd2, k2, rfl, he0, he1, rfl, rfl⟩
  refine ⟨_, rfl, as_cellA O I.i3 rfl rfl (by repeat' constructor) ?_⟩
  obtain ⟨W, hW⟩ : ∃ W, W = 2 + d2 := ⟨_, rfl⟩
  rw [← hW]
  refine ex_expr (ev_call O rfl rfl rfl rfl (args_pe O (.cons (.cel rfl rfl rfl (by repeat' constructor)) (.cons (.cel rfl rfl rfl (by repeat' constructor)) (.cons (.cel rfl rfl rfl (by repeat' constructor)) .nil))) (SpecC.call (delete_spec (N := N) (gs := gs) (ge := ge) (bv := 1) (zv := N - ge + gs + 1) (st := st) (en := en) (ms := k0.toList ++ rs0) hnd (Nat.lt_of_le_of_lt hms (by decide)) (by omega)) O (by decide) (by repeat' constructor) ?_)))
  rintro _ _ ⟨D0, pt1, zv1, gs1, ge1, N1, ms1, rfl, rfl, hzv1, g1, g2, g3, g4, g5, hms1⟩
  obtain rfl : ms1 = (k0.toList ++ rs0).map (Mark.mv (fD st en)) := by
    rcases hms1 with ⟨h1, h2⟩ | ⟨_, h2⟩
    · rw [h2, ← h1]
      exact (List.map_congr_left fun q _ => fD_id q).trans (List.map_id _) |>.symm
    · exact h2
  have hnd2 : (((k0.toList ++ rs0).map (Mark.mv (fD st en))).map (·.num)).Nodup := by rw [List.map_map]; exact hnd
  rw [← key_mv (g := fD st en) (ms := k0.toList ++ rs0)]
  refine ex_expr (ev_call O rfl rfl rfl rfl (args_ev (ev_pe O (.cel rfl rfl rfl (by repeat' constructor)) (args_ev (ev_pe O (.cel rfl rfl rfl (by repeat' constructor)) (args_ev (ev_mulA O (ev_listA (args_pe O (by repeat' (first | constructor | omega)) ⟨1, rfl, by decide, fun L1 => ⟨L1, W, rfl, (.cel rfl rfl rfl (by repeat' constructor)), (by repeat' constructor), by omega, by omega, fun L2 => args_nilE (SpecC.call (insat_spec (N := N1) (gs := gs1) (ge := ge1) (bv := 1) (zv := zv1) (place := st) (W := W) (ms := (k0.toList ++ rs0).map (Mark.mv (fD st en))) hnd2 (by rw [List.length_map]; exact Nat.lt_of_le_of_lt hms (by decide)) (by omega)) O (by decide) (by repeat' constructor) ?_)⟩⟩)))))))))
  rintro _ _ ⟨pt2, gs2, ge2, N2, rfl, rfl, i1, i2, i3, i4, i5⟩
  rw [mv_mv, key_mv]
  have hz2 : zv1 + W = N - ge + gs - (en - st) + W + 1 := by omega
  have hI := I.inv.edit (pt := pt2) (zv := zv1 + W) (gs := gs2) (ge := ge2) (N := N2) (st := st) (en := en) (W := W) ⟨by omega, by omega, by show en ≤ N - ge + gs + 1; omega, by omega⟩ ⟨i1, i2, i3, by omega⟩ (by show N2 - ge2 + gs2 = N - ge + gs - (en - st) + W; omega) hz2
  have hsz3 : 4 ≤ N2 - ge2 + gs2 := by omega
  have hN2 : N2 ≤ 40 + 5 * ((i + 1 : Nat) : Int) := by omega
  have hpre : ∀ i, ((((rs0.map (·.pos)).take i).map (gm st en W)).map SV.int).length ≤ i := fun i => by rw [List.length_map, List.length_map]; exact List.length_take_le _ _
  refine ex_weak (Weak.locs (m' := [(Str.ofString "place", .int pl), (Str.ofString "word", .str (Str.ofString "edit")), (Str.ofString "deck", .ref D), (Str.ofString "most", .int x.most), (Str.ofString "model", .ref Md)]) (show LocSub _ _ by repeat' (first | exact LocSub.nil | refine LocSub.put rfl ?_))) (ex_weak (σ' := ⟨[(Str.ofString "place", .int pl), (Str.ofString "word", .str (Str.ofString "edit")), (Str.ofString "deck", .ref D), (Str.ofString "most", .int x.most), (Str.ofString "model", .ref Md)], .list Rg ((rs0.map (·.pos)).map .int) :: .list Md [mpOf k0, .ref Rg] :: .cell c1 (.int st) :: .cell c2 (.int en) :: .cell c3 (.int W) :: .raw 611 (tabObj ps) :: .cell c4 (.ref x.B) :: .cell c5 (.ref x.RG) :: .list D [.ref ID, .int (kk + 1 + 1), .int sd2] :: .list ID (js.map .int) :: (sysL x (Vr.ed ⟨RL0, pt, bv, zv, gs, ge, N, last0, k0, rs0⟩ pt2 (zv1 + W) gs2 ge2 N2 (gm st en W)) ++ .anyL L1 1 :: LL)⟩) ?_ ?_)
  · rw [sysL_mv]
    exact Weak.perm (Split.perm (ex := [.list Rg ((rs0.map (·.pos)).map .int), .list Md [mpOf k0, .ref Rg], .cell c1 (.int st), .cell c2 (.int en), .cell c3 (.int W), .raw 611 (tabObj ps), .cell c4 (.ref x.B), .cell c5 (.ref x.RG), .list D [.ref ID, .int (kk + 1 + 1), .int sd2], .list ID (js.map .int), bufE x.B x.G x.M x.LI pt2 1 (zv1 + W) (Vr.mkv ⟨RL0, pt, bv, zv, gs, ge, N, last0, k0, rs0⟩), mksE x.M x.R, .rows x.R ((Vr.ms ⟨RL0, pt, bv, zv, gs, ge, N, last0, k0, rs0⟩).map Mark.key), .marks x.B ((Vr.ms ⟨RL0, pt, bv, zv, gs, ge, N, last0, k0, rs0⟩).map (Mark.mv (gm st en W))), gapE x.G x.c gs2 ge2, .anyL x.c N2, ringE x.RG RL0 x.most last0, .list RL0 (rs0.map fun q => .ref q.a), .list x.LI []]) (r := .anyL L1 1 :: LL) (by repeat' constructor))
  refine ex_assign (ev_list (args_ev (ev_call O rfl rfl rfl rfl (args_pe O (.cons (.idx (by repeat' (first | constructor | omega)) (by repeat' constructor) (by repeat' (first | constructor | omega)) (by decide) (by decide) rfl) (.cons (.cel rfl rfl rfl (by repeat' constructor)) (.cons (.cel rfl rfl rfl (by repeat' constructor)) (.cons (.cel rfl rfl rfl (by repeat' constructor)) .nil)))) (SpecC.call (movedM_spec (k0 := k0) (st := st) (en := en) (W := W) (by omega)) O (by decide) .nil ?_)))))
  rintro _ _ ⟨rfl, rfl⟩
  refine args_ev (ev_comp O rfl (by decide) rfl (by decide) rfl (ev_pe O (.idx (by repeat' (first | constructor | omega)) (by repeat' constructor) (by repeat' (first | constructor | omega)) (by decide) (by decide) rfl) ⟨Rg, (rs0.map (·.pos)).map .int, ⟨[(Str.ofString "place", .int pl), (Str.ofString "word", .str (Str.ofString "edit")), (Str.ofString "deck", .ref D), (Str.ofString "most", .int x.most), (Str.ofString "model", .ref Md)], .list Md [mpOf k0, .ref Rg] :: .cell c1 (.int st) :: .cell c2 (.int en) :: .cell c3 (.int W) :: .raw 611 (tabObj ps) :: .cell c4 (.ref x.B) :: .cell c5 (.ref x.RG) :: .list D [.ref ID, .int (kk + 1 + 1), .int sd2] :: .list ID (js.map .int) :: (sysL x (Vr.ed ⟨RL0, pt, bv, zv, gs, ge, N, last0, k0, rs0⟩ pt2 (zv1 + W) gs2 ge2 N2 (gm st en W)) ++ .anyL L1 1 :: LL)⟩, fun i => (((rs0.map (·.pos)).take i).map (gm st en W)).map .int, rfl, fun _ _ h => h, by rw [List.length_map, List.length_map]; omega, rfl, hpre, ?_, fun D1 => ?_⟩))
  · intro i u own C hu hin O4
    rw [List.getElem?_map] at hu
    obtain ⟨q, hq, rfl⟩ := Option.map_eq_some_iff.mp hu
    refine tests_none ⟨fun h => (nomatch h), fun _ => ce_call O4 rfl rfl (by decide) hin rfl (by decide) rfl (.cons .var (.cons (.cel rfl rfl rfl (by repeat' constructor)) (.cons (.cel rfl rfl rfl (by repeat' constructor)) (.cons (.cel rfl rfl rfl (by repeat' constructor)) .nil)))) (by simp) (SpecC.call (movedI_spec (by omega)) O4 (by decide) .nil ?_)⟩
    rintro _ _ ⟨rfl, rfl⟩
    exact ⟨by show (((rs0.map (·.pos)).take (i + 1)).map _).map _ = _; rw [take_stepI hq, List.map_append, List.map_append]; rfl, fun _ _ h => h⟩
  · have hpl3 : (((rs0.map (·.pos)).take ((rs0.map (·.pos)).map SV.int).length).map (gm st en W)).map SV.int = ((rs0.map (Mark.mv (gm st en W))).map (·.pos)).map SV.int := by
      rw [List.length_map, List.take_length]
      congr 1
      rw [List.map_map, List.map_map]; rfl
    dsimp only
    rw [hpl3]
    refine args_nilE ⟨(Nat.le_of_ble_eq_true rfl), fun Md' => as_loc O rfl (ex_nilS (ex_nilS (ex_nilS (ex_nilS (ex_nilS ?_)))))⟩
    exact turn_end (u := ⟨Vr.ed ⟨RL0, pt, bv, zv, gs, ge, N, last0, k0, rs0⟩ pt2 (zv1 + W) gs2 ge2 N2 (gm st en W), Md', D1, .cell c1 (.int st), .cell c2 (.int en), .cell c3 (.int W), ps, LL, kk + 1 + 1, sd2⟩) (y := ⟨x, D, ID, c1, c2, c3, c4, c5, js⟩) O (by decide) rfl rfl rfl rfl rfl rfl (show LocSub _ _ by repeat' (first | exact LocSub.nil | refine LocSub.put rfl ?_)) (by repeat' constructor) (by intro z hz; repeat (first | exact hz | exact List.mem_append_left _ hz | apply List.Mem.tail)) ⟨hI, hsz3, hN2, .inr ⟨_, rfl⟩, .inr ⟨_, rfl⟩, .inr ⟨_, rfl⟩, I.tr, I.t1, I.t2⟩ (by dsimp only; omega) fun τ h => ⟨.inl rfl, h⟩
end
section
variable {Z : Wd} {n : Fn} {f : Frm} {σ : St} {k : Nat} {pos : Pos}
theorem Weak.noMarks {m : List (Str × SV)} {l : List SE} {B : Addr} : Weak Z ⟨m, l⟩ ⟨m, .marks B [] :: l⟩ := fun _ _ ⟨h, tk, m', c, e, F, lm, N, X, nd⟩ => ⟨h, tk, m', c, e, F, lm, N, ⟨[], c, rfl, rfl, X⟩, nd⟩
theorem ev_fdiv {l r : Expr} {K : SV → St → Prop} (O : Ok Z n f k) (h : EvOk Z n f σ l fun v σ1 => ∃ i j, v = .int i ∧ PE n σ1 r (.int j) ∧ j ≠ 0 ∧ Builtin.divisionGoesByPylong i j = false ∧ K (.int (i.fdiv j)) σ1) : EvOk Z n f σ (.BinOp l .FloorDiv r pos) K := by
  refine fun R E hR s hs => wpAny_BinOp (h _ E (fun v σ1 hk v' s1 hv hs1 => ?_) s hs)
  obtain ⟨i, j, rfl, hp, hj, hy, hK⟩ := hk
  refine hp.sound O (fun u' s2 hu hs2 => ?_) hs1
  obtain ⟨t, rfl⟩ := hv
  obtain ⟨t', rfl⟩ := hu
  exact floordiv_int hj (hR _ _ hK _ _ ⟨_, rfl⟩ hs2.tok) (.inl hy)
end
section
variable {Z : Wd}
theorem law_walk {fd : FuncData} {b : List Stmt} {fa S c1 c2 c3 c4 c5 : Addr} {o1 o2 o3 o4 o5 : Obj} {ns : List Int} {f : Frm} (hfd : fdOf (Mine.hd.heap_39 Z.w.params) 614 = some fd) (hb : fd.body = .stmts b)
    (O : Ok Z ⟨fd.qualname, fd.scope, fa, .ref 613, [(Str.ofString "ring", c5), (Str.ofString "buffer", c4), (Str.ofString "many", c3), (Str.ofString "end", c2), (Str.ofString "start", c1)]⟩ f 10) (hbase : f.base = f.h₀) (hC : CodeHd f.h₀ 613 611) (hB : BaseL S ns f.h₀) (hz : ns.length ≤ 63)
    (d1 : o1.data = .cell none) (d2 : o2.data = .cell none) (d3 : o3.data = .cell none) (d4 : o4.data = .cell none) (d5 : o5.data = .cell none) :
    ExOk Z ⟨fd.qualname, fd.scope, fa, .ref 613, [(Str.ofString "ring", c5), (Str.ofString "buffer", c4), (Str.ofString "many", c3), (Str.ofString "end", c2), (Str.ofString "start", c1)]⟩ f ⟨[(Str.ofString "script", .ref S)], [.raw c5 o5, .raw c4 o4, .raw c3 o3, .raw c2 o2, .raw c1 o1, .raw 611 (tabObj #[])]⟩ b fun fl σ => fl = .ret (.bool true) ∧ ∃ ps, .raw 611 (tabObj ps) ∈ σ.led := by
  obtain ⟨Q, hQ⟩ : ∃ Q, Q = lawQ fd := ⟨_, rfl⟩
  have hfd0 := hfd
  have hb0 := hb
  have e : fdOf (Mine.hd.heap_39 Z.w.params) 614 = some _ := rfl
  rw [e] at hfd
  cases hfd
  cases hb
  clear e
  refine ex_assign (ev_call O rfl rfl rfl rfl (args_pe O (by repeat' (first | constructor | omega)) (SpecH.call (deck_spec (by omega)) hB O (by decide) .nil ?_)))
  rintro _ _ ⟨D, ID, js, cc, rfl, hjs, rfl⟩
  refine as_loc O rfl ?_
  refine ex_swap O rfl rfl (ev_tuple (args_ev (ev_call O rfl rfl rfl rfl (args_pe O (by repeat' (first | constructor | omega)) (SpecC.call (draw_spec (many := 4) (k := 0) (sd := cc) (D := D) (C := ID) (ns := js) (by omega) (by omega) (by omega)) O (by decide) (by repeat' constructor) ?_)))))
  rintro _ _ ⟨most, sd1, k1, rfl, hm0, hm1, rfl, rfl⟩
  refine args_ev (ev_add O (ev_pe O (by repeat' (first | constructor | omega)) ⟨_, rfl, ev_call O rfl rfl rfl rfl (args_pe O (by repeat' (first | constructor | omega)) (SpecC.call (draw_spec (many := 4) (k := 0 + 1) (sd := sd1) (D := D) (C := ID) (ns := js) (by omega) (by omega) (by omega)) O (by decide) (by repeat' constructor) ?_))⟩))
  rintro _ _ ⟨q, sd2, k2, rfl, hq0, hq1, rfl, rfl⟩
  refine ⟨_, rfl, args_nilE ⟨(Nat.le_of_ble_eq_true rfl), fun T => ⟨T, .int most, .int (4 + q), rfl, (by repeat' constructor), ?_⟩⟩⟩
  refine ex_assign (ev_tuple (args_ev (ev_call O rfl rfl rfl rfl (args_pe O (by repeat' (first | constructor | omega)) (call_new (ex := []) O rfl (by decide) .nil (fun a => buf_init) ?_)))))
  rintro B _ _ ⟨G, M, LI, R, c, rfl, rfl⟩
  refine ⟨rfl, args_ev (ev_call O rfl rfl rfl rfl (args_pe O (by repeat' (first | constructor | omega)) (call_new (ex := []) O rfl (by decide) .nil (fun a => ring_init) ?_)))⟩
  rintro RG _ _ ⟨RL, rfl, rfl⟩
  refine ⟨rfl, args_ev (ev_list (args_ev (ev_pe O (by repeat' (first | constructor | omega)) (args_ev (ev_list (args_nilE ⟨(Nat.le_of_ble_eq_true rfl), fun PL => ?_⟩))))))⟩
  refine args_nilE ⟨(Nat.le_of_ble_eq_true rfl), fun Md => ?_⟩
  refine args_nilE ⟨(Nat.le_of_ble_eq_true rfl), fun T2 => ?_⟩
  refine as_tup3 (by repeat' constructor) (as_raw O rfl rfl d4 (by repeat' constructor) (as_raw O rfl rfl d5 (by repeat' constructor) (as_loc O rfl ?_)))
  refine ex_weak (Weak.noMarks (B := B)) ?_
  obtain ⟨W, hW⟩ : ∃ W, W = 4 + q := ⟨_, rfl⟩
  rw [← hW]
  refine ex_expr (ev_call O rfl rfl rfl rfl (args_ev (ev_pe O (.cel rfl rfl rfl (by repeat' constructor)) (args_ev (ev_pe O (by repeat' (first | constructor | omega)) (args_ev (ev_mulA O (ev_listA (args_pe O (by repeat' (first | constructor | omega)) ⟨1, rfl, by decide, fun L1 => ⟨L1, W, rfl, (by repeat' (first | constructor | omega)), (by repeat' constructor), by omega, by omega, fun L2 => args_nilE (SpecC.call (insat_spec (N := 2) (gs := 0) (ge := 2) (bv := 1) (zv := 1) (place := 1) (W := W) (ms := []) .nil (by decide) (by omega)) O (by decide) (by repeat' constructor) ?_)⟩⟩)))))))))
  rintro _ _ ⟨pt2, gs2, ge2, N2, rfl, rfl, i1, i2, i3, i4, i5⟩
  have hI : Inv ⟨B, G, c, M, R, LI, RG, most⟩ ⟨RL, pt2, 1, 1 + W, gs2, ge2, N2, 0, none, []⟩ := by
    refine ⟨⟨i1, i2, i3, by show N2 ≤ 4000; omega⟩, ⟨Int.le_refl 1, by show 1 ≤ 1 + W; omega, by show 1 + W ≤ N2 - ge2 + gs2 + 1; omega⟩, ⟨hm0, by show most ≤ 3; omega⟩, by show ((0 : Nat) : Int) ≤ most; omega, fun q h => (nomatch h), fun q h => (nomatch h), Int.le_refl _, .nil, fun q h => (nomatch h)⟩
  have hdiv : (min (ns.length : Int) 24).fdiv 3 = min (ns.length : Int) 24 / 3 := Int.fdiv_eq_ediv_of_nonneg _ (by decide)
  refine ex_forR O rfl rfl rfl (Ev.out (ev_add O (ev_pe O (by repeat' (first | constructor | omega)) ⟨4, rfl, ev_fdiv O (ev_min O rfl rfl (ev_lenH O rfl hB (by repeat' (first | constructor | omega)) (by omega) ⟨_, rfl, ev_pe O (by repeat' (first | constructor | omega)) ⟨24, rfl, _, 3, rfl, (by repeat' (first | constructor | omega)), by decide, ?_, _, rfl, ⟨_, lawL_weak (m' := lawM ⟨⟨B, G, c, M, R, LI, RG, most⟩, D, ID, c1, c2, c3, c4, c5, js⟩ Md) (y := ⟨⟨B, G, c, M, R, LI, RG, most⟩, D, ID, c1, c2, c3, c4, c5, js⟩) (u := ⟨⟨RL, pt2, 1, 1 + W, gs2, ge2, N2, 0, none, []⟩, Md, PL, .raw c1 o1, .raw c2 o2, .raw c3 o3, #[], [], 0 + 1 + 1, sd2⟩) (show LocSub _ _ by repeat' (first | exact LocSub.nil | refine LocSub.put rfl ?_)) (by repeat' constructor), ?_⟩⟩⟩))⟩)))
  · exact PyProof.noPylong_small (by decide)
  refine ⟨(4 + min (ns.length : Int) 24 / 3).toNat, LawJ Q ⟨⟨B, G, c, M, R, LI, RG, most⟩, D, ID, c1, c2, c3, c4, c5, js⟩, ?_, by omega, ?_, ?_, ?_⟩
  · rw [hdiv]; congr 1; omega
  · refine ⟨⟨⟨RL, pt2, 1, 1 + W, gs2, ge2, N2, 0, none, []⟩, Md, PL, .raw c1 o1, .raw c2 o2, .raw c3 o3, #[], _, 0 + 1 + 1, sd2⟩, rfl, ⟨hI, by show 4 ≤ N2 - ge2 + gs2; omega, by show N2 ≤ _; omega, .inl ⟨o1, none, rfl, d1⟩, .inl ⟨o2, none, rfl, d2⟩, .inl ⟨o3, none, rfl, d3⟩, True.intro, .inl fun _ _ => rfl, .inl fun _ _ => rfl⟩, show (0 : Int) ≤ 0 + 1 + 1 by decide, show (0 : Int) + 1 + 1 ≤ 10 + 10 * ((0 : Nat) : Int) by decide⟩
  · rintro i τ own hi O2 ⟨u, rfl, I, hk⟩
    subst hQ
    exact law_turn br_push br_pop br_set br_edit br_tomark br_narrow hfd0 hb0 O2 hbase hC (Nat.le_trans hjs (by decide)) I hk (by omega)
  · rintro τ ⟨u, rfl, _⟩
    exact ex_ret (ev_pe O (by repeat' (first | constructor | omega)) ⟨rfl, u.ps, .head _⟩)
end
section
variable {Z : Wd}
theorem law_fin {fd : FuncData} {b : List Stmt} {fa S L : Addr} {o1 o2 o3 o4 o5 : Obj} {vs : List Value} {ns : List Int} {g h₁ : Heap} {m : Str → Option Value} {s : Shared} {tk : Nat} {Q : Flow → Shared → Prop} {E : Value → Shared → Prop}
    (hfd : fdOf (Mine.hd.heap_39 Z.w.params) 614 = some fd) (hb : fd.body = .stmts b) (hk : fd.scope.kind = .function) (K : Below callerA g [] g) (X : (Mine.hd.heap_39 Z.w.params).In g) (T : Top Z.p Z.loose Z.mean Z.mg Z.mb g) (F : Fr g L h₁ m) (hm : m (Str.ofString "script") = some (.ref S))
    (hl : g.IsList S vs.toArray) (hi : IntsAre vs ns) (hz : ¬ (63 : Int) < ns.length) (hC : CodeHd g 613 611) (N : News g L h₁ [(L + 1 + 1 + 1 + 1 + 1, o5), (L + 1 + 1 + 1 + 1, o4), (L + 1 + 1 + 1, o3), (L + 1 + 1, o2), (L + 1, o1), (611, tabObj #[])]) (l0 : @LT.lt Nat _ 611 L)
    (d1 : o1.data = .cell none) (d2 : o2.data = .cell none) (d3 : o3.data = .cell none) (d4 : o4.data = .cell none) (d5 : o5.data = .cell none)
    (hQ : ∀ h' tk', (∀ b o, g.get? b = some o → h'.get? b = some o) → GrownAt 611 h' → Q (.ret (.bool true)) { s with heap := h', toks := tk' }) :
    wpAny Z.M (callerA.deeper (envX fd.qualname fd.scope L fa (.ref 613) [(Str.ofString "ring", L + 1 + 1 + 1 + 1 + 1), (Str.ofString "buffer", L + 1 + 1 + 1 + 1), (Str.ofString "many", L + 1 + 1 + 1), (Str.ofString "end", L + 1 + 1), (Str.ofString "start", L + 1)]))
      (execs b (envX fd.qualname fd.scope L fa (.ref 613) [(Str.ofString "ring", L + 1 + 1 + 1 + 1 + 1), (Str.ofString "buffer", L + 1 + 1 + 1 + 1), (Str.ofString "many", L + 1 + 1 + 1), (Str.ofString "end", L + 1 + 1), (Str.ofString "start", L + 1)])) Q E { s with heap := h₁, toks := tk } := by
  refine law_walk (Z := Z) (fa := fa) (S := S) (o1 := o1) (o2 := o2) (o3 := o3) (o4 := o4) (o5 := o5) (ns := ns) (f := { dp := callerA.depth + 1, un := callerA.units + 3, gd := callerA.guards, L := L, outer := [], A₀ := callerA, base := g, h₀ := g, own := [], sh := s }) hfd hb ⟨K, X, T, hk, ?_, ?_⟩ rfl hC ⟨vs, hl, hi⟩ (by omega) d1 d2 d3 d4 d5 Q E ?_ _ ⟨h₁, tk, m, _, rfl, F, ?_, ?_, ⟨[_], _, rfl, rfl, ⟨[_], _, rfl, rfl, ⟨[_], _, rfl, rfl, ⟨[_], _, rfl, rfl, ⟨[_], _, rfl, rfl, ⟨[_], _, rfl, rfl, rfl⟩⟩⟩⟩⟩⟩, ?_⟩
  · show callerA.depth + 1 + 2 * 10 < recursionLimit
    decide
  · have := cLine_is
    show callerA.units + 3 + 40 * 10 < cLine
    have h : callerA.units ≤ 100 := by decide
    omega
  · rintro fl σ ⟨rfl, ps, hps⟩ fl' s' ⟨v', rfl, rfl⟩ ⟨h, tk', m', c, rfl, F', lm, N', X', nd⟩
    obtain ⟨pre, c1, post, rfl, e⟩ := Exp.mem hps X'
    cases (show c1 = [_] from e)
    exact hQ h tk' F'.keep (GrownAt.of N' (List.mem_append_left _ (List.mem_append_left _ (List.mem_append_right _ (.head _)))))
  · intro x v hx
    rw [List.lookup_cons] at hx
    split at hx
    · rename_i e
      cases hx
      exact ⟨_, by rw [eq_of_beq e]; exact hm, rfl⟩
    · cases hx
  · exact N
  · have l0 : (611 : Nat) < L := l0
    show ([L + 1 + 1 + 1 + 1 + 1, L + 1 + 1 + 1 + 1, L + 1 + 1 + 1, L + 1 + 1, L + 1, 611] : List Nat).Nodup
    simp only [List.nodup_cons, List.mem_cons, List.not_mem_nil, or_false, not_false_iff, List.nodup_nil, and_true]
    omega
end
set_option maxRecDepth 100000 in
set_option maxHeartbeats 8000000 in
theorem holds : PySem.Challenge.rw_np0074_01.Holds := by
  refine holds_law said fun said => ?_
  refine holds_open (q := hd.view_39) (loose := [Str.ofString "Buffer", Str.ofString "insert_at"]) (Xt := fun s => xlAt hd.view_39 [] s && recOk (RowW.records (OpenRow.toRowW PySem.Challenge.rw_np0074_01.row)) s) (XP := XL hd.view_39 [])
    (Yf := Hook.obs (kmHook hd.heap_39 hd.asAll (fun _ => by kernel_rfl) [611])) (Ya := Hook.val (kmHook hd.heap_39 hd.asAll (fun _ => by kernel_rfl) [611])) (YP := Hook.says (kmHook hd.heap_39 hd.asAll (fun _ => by kernel_rfl) [611])) (N := 7764)
    left_all (Hook.of _) (Hook.keeps _) (fun s e => xl_of s (Bool.and_eq_true_iff.mp e).1) XL.keeps (by rfl) (by rfl) (by rfl) (fun s e => recFacts_of (Bool.and_eq_true_iff.mp e).2) (by rfl) (by first | assumption | decide +kernel) (by decide +kernel) ⟨rfl, rfl, rfl, rfl, rfl, by decide +kernel⟩ ?hw ?hc
  case hw => w_witness2
  case hc =>
    k_go0
    rename News _ _ _ _ => N9
    rename Fr _ _ _ _ => F9
    rename Top _ _ _ _ _ _ => T9
    rename Below _ _ _ _ => K9
    rename Frag.In _ _ => X9
    rename IntsAre _ _ => I9
    rename ¬ _ < _ => z9
    rename @LT.lt Nat _ 611 _ => l9
    rename _ = #[] => g9
    refine law_fin (Z := ⟨_, _, _, _, _, _, _⟩) rfl rfl rfl K9 X9 T9 F9 rfl lifted I9 z9 codeHd N9 l9 ?_ ?_ ?_ ?_ ?_ ?_
    any_goals assumption
    intro h' tk' hk hgr
    exact ⟨⟨.inl ⟨_, .bool true, [], rfl, fun _ => rfl, .bool true, by kernel_rfl, fun _ => ⟨.nil, fun a ha => (nomatch ha)⟩⟩, hk, rfl, g9⟩, hgr, trivial⟩
end Mine
theorem PySem.Challenge.cw_np0074_01_holds : PySem.Challenge.rw_np0074_01.Holds :=
  Mine.holds
